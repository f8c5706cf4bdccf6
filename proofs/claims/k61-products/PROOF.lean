import PyProof.Rows.All
import Wide.All
import OpenK.AllK
import Wide.FinOn
import HandS.ForMost
import HandS.Exc
import HandS.TryOnly
import HandS.ExcOwn
import HandS.WordsExc
import HandS.CallSlots
import KE.KDictKeyed
import KE.KeyNested
import HandS.Flow
import HandS.TupAny
import HandS.Wide
import HandS.WideMore
import HandS.IsInst
import HandS.TupLe
import HandS.Deep
import PyProof.Rows.InDataRows
import PyProof.ExcBaseAll.ValueError
import HandS.ExcIs
import PySem.Challenge.RW_cantmove_k61_whole_products
set_option Elab.async false
set_option linter.all false
set_option maxRecDepth 100000
set_option maxHeartbeats 4000000
/-! ZBase: a functional layer. Data are values (tuples by value, mutable objects by number); a def is a function on a store; each rule says that the model does what the function says. -/
namespace Z
open PySem L2

/-- data: tuples by value, mutable objects by their number in the store -/
inductive D where
  | non | bl (b : Bool) | int (i : Int) | str (s : Str) | tup (ds : List D) | ref (n : Nat) | ty (s : String) | kl (a : Addr) (ns : List Int)
mutual
def D.beq : D → D → Bool
  | .non, .non => true
  | .bl a, .bl b => a == b
  | .int a, .int b => a == b
  | .str a, .str b => decide (a = b)
  | .tup a, .tup b => D.beqs a b
  | .ref a, .ref b => a == b
  | .ty a, .ty b => a == b
  | .kl a ns, .kl b ms => decide (a = b) && decide (ns = ms)
  | _, _ => false
def D.beqs : List D → List D → Bool
  | [], [] => true
  | a :: as, b :: bs => D.beq a b && D.beqs as bs
  | _, _ => false
end
mutual
theorem D.beq_iff : ∀ a b : D, D.beq a b = true ↔ a = b
  | .non, b => by cases b <;> simp [D.beq]
  | .bl a, b => by cases b <;> simp [D.beq]
  | .int a, b => by cases b <;> simp [D.beq]
  | .str a, b => by cases b <;> simp [D.beq]
  | .tup a, b => by cases b <;> simp [D.beq, D.beqs_iff a]
  | .ref a, b => by cases b <;> simp [D.beq]
  | .ty a, b => by cases b <;> simp [D.beq]
  | .kl a ns, b => by cases b <;> simp [D.beq]
theorem D.beqs_iff : ∀ a b : List D, D.beqs a b = true ↔ a = b
  | [], b => by cases b <;> simp [D.beqs]
  | a :: as, b => by cases b <;> simp [D.beqs, D.beq_iff a, D.beqs_iff as]
end
instance : DecidableEq D := fun a b => if h : D.beq a b = true then isTrue ((D.beq_iff a b).mp h) else isFalse fun e => h ((D.beq_iff a b).mpr e)
/-- what stands at a number: a list, a dict -/
inductive O where
  | lst (ds : List D) | dct (t lk : Bool) (kvs : List (D × D))
  deriving DecidableEq
abbrev S := List O
abbrev Ev := List (Option D)
inductive R (α : Type) where
  | ok (a : α) (s : S) | exc (c : Str) (s : S) | bad
namespace R
variable {α β : Type}
def bind (r : R α) (f : α → S → R β) : R β := match r with
  | .ok a s => f a s
  | .exc c s => .exc c s
  | .bad => .bad
@[simp] theorem bind_ok (a : α) (s : S) (f : α → S → R β) : (R.ok a s).bind f = f a s := rfl
@[simp] theorem bind_exc (c : Str) (s : S) (f : α → S → R β) : (R.exc c s : R α).bind f = .exc c s := rfl
@[simp] theorem bind_bad (f : α → S → R β) : (R.bad : R α).bind f = .bad := rfl
end R
abbrev M (α : Type) := Ev → S → R α
inductive Fl where
  | nx (ρ : Ev) | rt (d : D) | bk (ρ : Ev) | ct (ρ : Ev) | xc (c : Str) (ρ : Ev)
abbrev MS := Ev → S → Option (Fl × S)

/-- what of the context the data lean on -/
structure Cz where
  P : Program
  w : World
  K : PySem.W.Frag
  mg : Str → Option Value
abbrev _root_.L2.Cx.z (X : Cx) : Cz := ⟨X.prog, X.w, X.K, X.mg⟩
/-! ### how data stand in the model -/
/-- a list of ints that is only read: handed in, or written in the text -/
def KL (K : PySem.W.Frag) (H : Hp) (a : Addr) (ns : List Int) : Prop := (∃ o, H a = some (.frz o (.lst (ns.map V.int)))) ∨
  ∃ (o : Obj) (its : Array Value) (n : Nat), K.lookup a = some o ∧ o.cls = .type "list" ∧ o.dict = none ∧ o.data = .seq its n ∧ its.size ≤ sizeLine ∧ Vals (ns.map V.int) its.toList
theorem KL.sq {K : PySem.W.Frag} {H : Hp} {a : Addr} {ns : List Int} (h : KL K H a ns) : SqL K H a (ns.map V.int) := by
  rcases h with ⟨o, h⟩ | h
  · exact .inl (.inr ⟨o, h⟩)
  · exact .inr h
section
variable (K : PySem.W.Frag) (L : List Addr) (H : Hp)
mutual
def RepV : D → V → Prop
  | .non, v => v = .non
  | .bl b, v => v = .bl b
  | .int i, v => v = .int i
  | .str s, v => v = .str s
  | .ty s, v => v = .ty s
  | .kl a ns, v => v = .ref a ∧ KL K H a ns
  | .ref n, v => ∃ a, L[n]? = some a ∧ v = .ref a
  | .tup ds, v => ∃ a vs, v = .ref a ∧ SqT K H a vs ∧ RepVs ds vs
def RepVs : List D → List V → Prop
  | [], vs => vs = []
  | d :: ds, vs => ∃ v r, vs = v :: r ∧ RepV d v ∧ RepVs ds r
end
end
/-- int and text keys -/
def keyD : Key → D
  | .inl i => .int i
  | .inr x => .str x
mutual
/-- a nested key as a datum -/
def nkD : NestedKey → D
  | .none => .non
  | .num i => .int i
  | .text x => .str x
  | .tup ks => .tup (nksD ks)
def nksD : List NestedKey → List D
  | [] => []
  | k :: ks => nkD k :: nksD ks
end
/-- a dict whose keys are tuples, nested: its entries (key, the key's place, value) -/
def NEs (P : Program) (w : World) (a : Addr) (es : List (NestedKey × Addr × V)) : Heap → Prop := fun h => es.length ≤ sizeLine ∧ (a == sysModules) = false ∧
  ∃ xs : List (NestedKey × Addr × Value), Paired (fun (p : NestedKey × Addr × V) (q : NestedKey × Addr × Value) => p.1 = q.1 ∧ p.2.1 = q.2.1 ∧ RelV p.2.2 q.2.2) es xs ∧
    ∃ o es' ep, h.get? a = some o ∧ o.ExactDict ∧ o.data = .dict es' ep ∧ es'.toList = xs.map (entryOfKey (nestedKind P w)) ∧ (xs.map (·.1)).Nodup
def dN (P : Program) (w : World) (a : Addr) (es : List (NestedKey × Addr × V)) : HO := .ext (NEs P w a es)
/-- a dict's object; t: its keys are tuples -/
def RepDct (z : Cz) (L : List Addr) (H : Hp) (a : Addr) (t : Bool) (kvs : List (D × D)) (o : HO) : Prop := match t with
  | false => ∃ es : List (Key × V), o = .dK es ∧ kvs.map (·.1) = es.map (fun e => keyD e.1) ∧ RepVs z.K L H (kvs.map (·.2)) (es.map (·.2))
  | true => ∃ es : List (NestedKey × Addr × V), o = dN z.P z.w a es ∧ kvs.map (·.1) = es.map (fun e => nkD e.1) ∧ RepVs z.K L H (kvs.map (·.1)) (es.map fun e => V.ref e.2.1) ∧ (∀ e ∈ es, e.1.depth ≤ 8) ∧ RepVs z.K L H (kvs.map (·.2)) (es.map (·.2.2))
/-- as it stands, or locked by a loop -/
def Lk (lk : Bool) (u o : HO) : Prop := match lk with
  | false => u = o
  | true => ∃ b, u = .frz b o
def RepO (z : Cz) (L : List Addr) (H : Hp) (a : Addr) : O → Prop
  | .lst ds => ∃ vs, H a = some (.lst vs) ∧ RepVs z.K L H ds vs
  | .dct t lk kvs => ∃ u o, H a = some u ∧ Lk lk u o ∧ RepDct z L H a t kvs o
structure RepS (z : Cz) (L : List Addr) (s : S) (H : Hp) : Prop where
  len : L.length = s.length
  nd : L.Nodup
  at_ : ∀ (n : Nat) (a : Addr) (o : O), L[n]? = some a → s[n]? = some o → RepO z L H a o
structure Ext (L : List Addr) (H : Hp) (L' : List Addr) (H' : Hp) : Prop where
  pre : ∃ M, L' = L ++ M ∧ ∀ a ∈ M, a ∉ L ∧ H a = none
  keep : ∀ a o, a ∉ L → H a = some o → H' a = some o
def RepE (K : PySem.W.Frag) (L : List Addr) (H : Hp) (ρ : Ev) (σ : St) : Prop := ρ.length = σ.length ∧ ∀ (i : Nat) d, ρ[i]? = some (some d) → ∃ v, σ[i]? = some (some v) ∧ RepV K L H d v

section
variable {z : Cz} {K : PySem.W.Frag} {L L' L2' : List Addr} {H H' H2 : Hp} {s s' : S} {ρ : Ev} {σ : St} {d : D} {ds : List D} {v : V} {vs : List V} {a : Addr}
theorem Ext.refl : Ext L H L H := ⟨⟨[], by simp⟩, fun _ _ _ h => h⟩
theorem Ext.trans (a : Ext L H L' H') (b : Ext L' H' L2' H2) : Ext L H L2' H2 := by
  obtain ⟨M, e, hm⟩ := a.pre
  obtain ⟨M', e', hm'⟩ := b.pre
  subst e e'
  refine ⟨⟨M ++ M', by simp, fun x hx => ?_⟩, fun x o hx h => ?_⟩
  · rcases List.mem_append.mp hx with h | h
    · exact hm x h
    · obtain ⟨h1, h2⟩ := hm' x h
      have hL : x ∉ L := fun z => h1 (List.mem_append_left _ z)
      refine ⟨hL, ?_⟩
      cases q : H x with
      | none => rfl
      | some o =>
        have := a.keep x o hL q
        rw [h2] at this; cases this
  · refine b.keep x o (fun h' => ?_) (a.keep x o hx h)
    rcases List.mem_append.mp h' with h' | h'
    · exact hx h'
    · rw [(hm x h').2] at h; cases h
theorem RepDct.no {t : Bool} {kvs : List (D × D)} {o : HO} (h : RepDct z L H a t kvs o) : Mut (some o) := by
  cases t with
  | false => obtain ⟨es, rfl, _⟩ := h; trivial
  | true => obtain ⟨es, rfl, _⟩ := h; trivial
/-- a mutable object's place holds no tuple -/
theorem RepO.notup {o : O} (h : RepO z L H a o) : ¬ Rd H a (.tup vs) := by
  rintro (q | ⟨b, q⟩)
  · cases o with
    | lst ds => obtain ⟨vs, e, _⟩ := h; rw [q] at e; cases e
    | dct t lk kvs =>
      obtain ⟨u, o, e, l, r⟩ := h
      rw [q] at e
      cases e
      cases lk with
      | false => cases l; exact r.no
      | true => obtain ⟨b, l⟩ := l; cases l
  · cases o with
    | lst ds => obtain ⟨vs, e, _⟩ := h; rw [q] at e; cases e
    | dct t lk kvs =>
      obtain ⟨u, o, e, l, r⟩ := h
      rw [q] at e
      cases e
      cases lk with
      | false => cases l; exact r.no
      | true => obtain ⟨b, l⟩ := l; cases l; exact r.no
theorem RepS.there (r : RepS z L s H) (h : a ∈ L) : ∃ (n : Nat) (o : O), L[n]? = some a ∧ s[n]? = some o ∧ RepO z L H a o := by
  obtain ⟨n, hn, e⟩ := List.mem_iff_getElem.mp h
  have hs : n < s.length := by rw [← r.len]; exact hn
  exact ⟨n, s[n], by rw [List.getElem?_eq_getElem hn, e], List.getElem?_eq_getElem hs, r.at_ _ _ _ (by rw [List.getElem?_eq_getElem hn, e]) (List.getElem?_eq_getElem hs)⟩
theorem SqT.ext (r : RepS z L s H) (e : Ext L H L' H') (h : SqT z.K H a vs) : SqT z.K H' a vs := by
  rcases h with h | h
  · have hL : a ∉ L := fun z => by
      obtain ⟨n, o, _, _, q⟩ := r.there z
      exact q.notup h
    rcases h with h | ⟨o, h⟩
    · exact .inl (.inl (e.keep a _ hL h))
    · exact .inl (.inr ⟨o, e.keep a _ hL h⟩)
  · exact .inr h
theorem RepO.nokl {o : O} {ob : Obj} {xs : List V} (h : RepO z L H a o) : H a ≠ some (.frz ob (.lst xs)) := fun q => by
  cases o with
  | lst ds => obtain ⟨vs, e, _⟩ := h; rw [q] at e; cases e
  | dct t lk kvs =>
    obtain ⟨u, o, e, l, r⟩ := h
    rw [q] at e
    cases e
    cases t with
    | false =>
      obtain ⟨es, rfl, _⟩ := r
      cases lk with
      | false => cases l
      | true => obtain ⟨b, l⟩ := l; cases l
    | true =>
      obtain ⟨es, rfl, _⟩ := r
      cases lk with
      | false => cases l
      | true => obtain ⟨b, l⟩ := l; cases l
theorem KL.ext {ns : List Int} (r : RepS z L s H) (e : Ext L H L' H') (h : KL z.K H a ns) : KL z.K H' a ns := by
  rcases h with ⟨o, h⟩ | h
  · have hL : a ∉ L := fun z => by
      obtain ⟨n, o', _, _, q⟩ := r.there z
      exact q.nokl h
    exact .inl ⟨o, e.keep a _ hL h⟩
  · exact .inr h
mutual
theorem RepV.ext (r : RepS z L s H) (e : Ext L H L' H') : ∀ {d : D} {v : V}, RepV z.K L H d v → RepV z.K L' H' d v
  | .non, _, h => h
  | .bl _, _, h => h
  | .int _, _, h => h
  | .str _, _, h => h
  | .ty _, _, h => h
  | .kl a ns, _, h => ⟨h.1, KL.ext r e h.2⟩
  | .ref n, _, h => by
    obtain ⟨a, h1, h2⟩ := h
    obtain ⟨M, e1, _⟩ := e.pre
    have hn : n < L.length := (List.getElem?_eq_some_iff.mp h1).1
    exact ⟨a, by rw [e1, List.getElem?_append_left hn]; exact h1, h2⟩
  | .tup ds, _, h => by
    obtain ⟨a, vs, h1, h2, h3⟩ := h
    exact ⟨a, vs, h1, SqT.ext r e h2, RepVs.ext r e h3⟩
theorem RepVs.ext (r : RepS z L s H) (e : Ext L H L' H') : ∀ {ds : List D} {vs : List V}, RepVs z.K L H ds vs → RepVs z.K L' H' ds vs
  | [], _, h => h
  | d :: ds, _, h => by
    obtain ⟨v, t, h1, h2, h3⟩ := h
    exact ⟨v, t, h1, RepV.ext r e h2, RepVs.ext r e h3⟩
end
theorem RepE.ext (r : RepS z L s H) (e : Ext L H L' H') (h : RepE z.K L H ρ σ) : RepE z.K L' H' ρ σ :=
  ⟨h.1, fun i d q => let ⟨v, h1, h2⟩ := h.2 i d q; ⟨v, h1, h2.ext r e⟩⟩
theorem RepE.set (h : RepE K L H ρ σ) (i : Nat) (r : RepV K L H d v) : RepE K L H (ρ.set i (some d)) (σ.set i (some v)) := by
  refine ⟨by simp [h.1], fun j e q => ?_⟩
  by_cases hj : j = i
  · subst hj
    have hl : j < ρ.length := by
      have := (List.getElem?_eq_some_iff.mp q).1
      simpa using this
    rw [List.getElem?_set_self hl] at q
    cases q
    exact ⟨v, List.getElem?_set_self (by rw [← h.1]; exact hl), r⟩
  · rw [List.getElem?_set_ne (Ne.symm hj)] at q ⊢
    exact h.2 j e q
theorem RepVs.len : ∀ {ds : List D} {vs : List V}, RepVs K L H ds vs → ds.length = vs.length
  | [], _, h => by cases h; rfl
  | d :: ds, _, h => by obtain ⟨v, t, rfl, _, h3⟩ := h; simp [RepVs.len h3]
theorem RepVs.get : ∀ {ds : List D} {vs : List V} {i : Nat} {d : D}, RepVs K L H ds vs → ds[i]? = some d → ∃ v, vs[i]? = some v ∧ RepV K L H d v
  | [], _, _, _, _, e => by simp at e
  | d :: ds, _, 0, _, h, e => by
    obtain ⟨v, t, rfl, h2, _⟩ := h
    simp at e; subst e
    exact ⟨v, rfl, h2⟩
  | d :: ds, _, i + 1, _, h, e => by
    obtain ⟨v, t, rfl, _, h3⟩ := h
    simpa using RepVs.get (i := i) h3 (by simpa using e)
theorem RepVs.append : ∀ {ds : List D} {vs : List V} {ds' : List D} {vs' : List V}, RepVs K L H ds vs → RepVs K L H ds' vs' → RepVs K L H (ds ++ ds') (vs ++ vs')
  | [], _, _, _, h, h' => by cases h; exact h'
  | d :: ds, _, _, _, h, h' => by
    obtain ⟨v, t, rfl, h2, h3⟩ := h
    exact ⟨v, _, rfl, h2, RepVs.append h3 h'⟩
theorem RepVs.take : ∀ {ds : List D} {vs : List V} (n : Nat), RepVs K L H ds vs → RepVs K L H (ds.take n) (vs.take n)
  | _, _, 0, _ => by simp [RepVs]
  | [], _, n + 1, h => by cases h; simp [RepVs]
  | d :: ds, _, n + 1, h => by
    obtain ⟨v, t, rfl, h2, h3⟩ := h
    exact ⟨v, _, rfl, h2, RepVs.take n h3⟩
theorem RepVs.drop : ∀ {ds : List D} {vs : List V} (n : Nat), RepVs K L H ds vs → RepVs K L H (ds.drop n) (vs.drop n)
  | _, _, 0, h => h
  | [], _, n + 1, h => by cases h; simp [RepVs]
  | d :: ds, _, n + 1, h => by
    obtain ⟨v, t, rfl, h2, h3⟩ := h
    exact RepVs.drop n h3
theorem RepVs.set (i : Nat) (r : RepV K L H d v) : ∀ {ds : List D} {vs : List V}, RepVs K L H ds vs → RepVs K L H (ds.set i d) (vs.set i v)
  | [], _, h => by cases h; simp [RepVs]
  | x :: ds, _, h => by
    obtain ⟨v', t, rfl, h2, h3⟩ := h
    cases i with
    | zero => exact ⟨v, t, rfl, r, h3⟩
    | succ i => exact ⟨v', _, rfl, h2, RepVs.set i r h3⟩
theorem RepVs.eraseIdx : ∀ (i : Nat) {ds : List D} {vs : List V}, RepVs K L H ds vs → RepVs K L H (ds.eraseIdx i) (vs.eraseIdx i)
  | i, [], _, h => by cases h; simp [RepVs]
  | 0, x :: ds, _, h => by
    obtain ⟨v', t, rfl, h2, h3⟩ := h
    exact h3
  | i + 1, x :: ds, _, h => by
    obtain ⟨v', t, rfl, h2, h3⟩ := h
    exact ⟨v', _, rfl, h2, RepVs.eraseIdx i h3⟩
theorem RepVs.nil : RepVs K L H [] [] := rfl
theorem RepVs.cons (h : RepV K L H d v) (t : RepVs K L H ds vs) : RepVs K L H (d :: ds) (v :: vs) := ⟨v, vs, rfl, h, t⟩

/-! a new tuple, a new object, a written object -/
theorem RepDct.ext (r : RepS z L s H) (e : Ext L H L' H') {t : Bool} {kvs : List (D × D)} {o : HO} (h : RepDct z L H a t kvs o) : RepDct z L' H' a t kvs o := by
  cases t with
  | false => obtain ⟨es, e1, e2, e3⟩ := h; exact ⟨es, e1, e2, e3.ext r e⟩
  | true => obtain ⟨es, e1, e2, e3, e4, e5⟩ := h; exact ⟨es, e1, e2, e3.ext r e, e4, e5.ext r e⟩
theorem RepO.ext (r : RepS z L s H) (e : Ext L H L' H') (same : H' a = H a) {o : O} (h : RepO z L H a o) : RepO z L' H' a o := by
  cases o with
  | lst ds => obtain ⟨vs, h1, h2⟩ := h; exact ⟨vs, same.trans h1, h2.ext r e⟩
  | dct t lk kvs => obtain ⟨u, o, h1, h2, h3⟩ := h; exact ⟨u, o, same.trans h1, h2, h3.ext r e⟩
theorem RepS.notin (r : RepS z L s H) (h : H a = none) : a ∉ L := fun q => by
  obtain ⟨n, o, _, _, q⟩ := r.there q
  cases o with
  | lst ds => obtain ⟨vs, e, _⟩ := q; rw [h] at e; cases e
  | dct t lk kvs => obtain ⟨u, o, e, _⟩ := q; rw [h] at e; cases e
/-- something new that is not the store's -/
theorem Ext.other {u : HO} (h : H a = none) : Ext L H L (upd H a u) := ⟨⟨[], by simp⟩, fun b o _ q => by rw [upd_ne (ne_of_none q h)]; exact q⟩
theorem RepS.other {u : HO} (r : RepS z L s H) (h : H a = none) : RepS z L s (upd H a u) :=
  ⟨r.len, r.nd, fun n b o h1 h2 => (r.at_ n b o h1 h2).ext r (Ext.other h) (upd_ne fun e => r.notin h (e ▸ List.mem_of_getElem? h1))⟩
/-- a new object of the store -/
theorem Ext.new {u : HO} (r : RepS z L s H) (h : H a = none) : Ext L H (L ++ [a]) (upd H a u) :=
  ⟨⟨[a], rfl, fun x hx => by rw [List.mem_singleton.mp hx]; exact ⟨r.notin h, h⟩⟩, fun b o _ q => by rw [upd_ne (ne_of_none q h)]; exact q⟩
theorem RepS.new {u : HO} {o : O} (r : RepS z L s H) (h : H a = none) (ho : RepO z (L ++ [a]) (upd H a u) a o) : RepS z (L ++ [a]) (s ++ [o]) (upd H a u) := by
  refine ⟨by simp [r.len], ?_, fun n b o' h1 h2 => ?_⟩
  · rw [List.nodup_append]
    refine ⟨r.nd, by simp, fun x hx y hy e => ?_⟩
    rw [List.mem_singleton.mp hy] at e
    exact r.notin h (e ▸ hx)
  · by_cases hn : n < L.length
    · rw [List.getElem?_append_left hn] at h1
      rw [List.getElem?_append_left (by rw [← r.len]; exact hn)] at h2
      exact (r.at_ n b o' h1 h2).ext r (Ext.new r h) (upd_ne fun e => r.notin h (e ▸ List.mem_of_getElem? h1))
    · have hn' : n = L.length := by
        have := (List.getElem?_eq_some_iff.mp h1).1
        simp at this
        omega
      subst hn'
      rw [List.getElem?_append_right (Nat.le_refl _)] at h1
      rw [r.len, List.getElem?_append_right (Nat.le_refl _)] at h2
      simp at h1 h2
      subst h1 h2
      exact ho
/-- an object of the store is written -/
theorem Ext.write {u : HO} {n : Nat} (h1 : L[n]? = some a) : Ext L H L (upd H a u) :=
  ⟨⟨[], by simp⟩, fun b o hb q => by rw [upd_ne (fun e => hb (by rw [e]; exact List.mem_of_getElem? h1))]; exact q⟩
theorem RepS.write {u : HO} {n : Nat} {o : O} (r : RepS z L s H) (h1 : L[n]? = some a) (ho : RepO z L (upd H a u) a o) : RepS z L (s.set n o) (upd H a u) := by
  refine ⟨by simp [r.len], r.nd, fun m b o' h2 h3 => ?_⟩
  by_cases hm : m = n
  · subst hm
    have hl : m < s.length := by rw [← r.len]; exact (List.getElem?_eq_some_iff.mp h1).1
    rw [List.getElem?_set_self hl] at h3
    rw [h1] at h2
    cases h2; cases h3
    exact ho
  · rw [List.getElem?_set_ne (Ne.symm hm)] at h3
    have hne : b ≠ a := fun e => by
      subst e
      obtain ⟨q1, q2⟩ := List.getElem?_eq_some_iff.mp h1
      obtain ⟨q3, q4⟩ := List.getElem?_eq_some_iff.mp h2
      exact hm ((List.getElem_inj r.nd).mp (q4.trans q2.symm))
    exact (r.at_ m b o' h2 h3).ext r (Ext.write h1) (upd_ne hne)
end

/-! ### readings that say what a function says -/
section
variable {α β γ : Type}
abbrev Rep (α β : Type) := List Addr → Hp → α → β → Prop
def RB : Rep Bool Bool := fun _ _ a b => b = a
def RI : Rep (Option Int) (Option Int) := fun _ _ a b => b = a
def RU : Rep Unit Unit := fun _ _ _ _ => True
/-- what is wanted behind -/
def Post (z : Cz) (rep : Rep α β) (W : WX) (σ : St) (L : List Addr) (H : Hp) (r : R α) (Q : β → Hp → Prop) : Prop := match r with
  | .ok a s' => ∀ b L' H', Ext L H L' H' → RepS z L' s' H' → rep L' H' a b → Q b H'
  | .exc c s' => ∀ cls L' H', z.mg c = some cls → Ext L H L' H' → RepS z L' s' H' → W cls none σ H'
  | .bad => False
def tG (z : Cz) (rep : Rep α β) (W : WX) (m : M α) : St → Hp → (β → Hp → Prop) → Prop :=
  fun σ H Q => ∃ ρ L s, RepE z.K L H ρ σ ∧ RepS z L s H ∧ Post z rep W σ L H (m ρ s) Q
variable {z : Cz} {rep : Rep α β} {W : WX} {σ : St} {L L' : List Addr} {H H' : Hp} {r : R α} {Q Q' : β → Hp → Prop}
theorem Post.mono (h : Post z rep W σ L H r Q) (hq : ∀ b H', Q b H' → Q' b H') : Post z rep W σ L H r Q' := by
  cases r with
  | ok a s => exact fun b L' H' e rs rv => hq _ _ (h b L' H' e rs rv)
  | exc c s => exact h
  | bad => exact h
theorem Post.from_ (e : Ext L H L' H') (h : Post z rep W σ L H r Q) : Post z rep W σ L' H' r Q := by
  cases r with
  | ok a s => exact fun b L2 H2 e2 rs rv => h b L2 H2 (e.trans e2) rs rv
  | exc c s => exact fun cls L2 H2 hc e2 rs => h cls L2 H2 hc (e.trans e2) rs
  | bad => exact h
/-- the first of two -/
theorem Post.bind {β' : Type} {rep' : Rep γ β'} {f : α → S → R γ} {Q : β' → Hp → Prop} (h : Post z rep' W σ L H (r.bind f) Q) :
    Post z rep W σ L H r fun b H1 => ∃ a L1 s1, Ext L H L1 H1 ∧ RepS z L1 s1 H1 ∧ rep L1 H1 a b ∧ Post z rep' W σ L1 H1 (f a s1) Q := by
  cases r with
  | ok a s => exact fun b L' H' e rs rv => ⟨a, L', s, e, rs, rv, Post.from_ e h⟩
  | exc c s => exact h
  | bad => exact h
theorem tG.mono {m : M α} (h : tG z rep W m σ H Q) (hq : ∀ b H', Q b H' → Q' b H') : tG z rep W m σ H Q' := by
  obtain ⟨ρ, L, s, h1, h2, h3⟩ := h
  exact ⟨ρ, L, s, h1, h2, h3.mono hq⟩
/-- a state -/
theorem tG.of {ρ : Ev} {s : S} {m : M α} (h1 : RepE z.K L H ρ σ) (h2 : RepS z L s H) (h3 : Post z rep W σ L H (m ρ s) Q) : tG z rep W m σ H Q := ⟨ρ, L, s, h1, h2, h3⟩
end
abbrev tE (X : Cx) (W : WX) (m : M D) : TE := tG X.z (RepV X.K) W m
abbrev tT (X : Cx) (W : WX) (m : M Bool) : TT := tG X.z RB W m
abbrev tA (X : Cx) (W : WX) (m : M (List D)) : TA := tG X.z (RepVs X.K) W m
abbrev tO (X : Cx) (W : WX) (m : M (Option Int)) : TO := tG X.z RI W m

section
variable {X : Cx} {e : Expr} {es : List Expr} {t t' : TE} {tt tt' : TT} {ta ta' : TA} {to to' : TO} {ts ts' : TS} {st : Stmt} {sts : List Stmt} {oe : Option Expr}
theorem _root_.L2.PE.imp (h : PE X e t) (hi : ∀ σ H Q, t' σ H Q → t σ H Q) : PE X e t' := ⟨fun pins s σ H Q I q => h.run pins s σ H Q I (hi σ H Q q)⟩
theorem _root_.L2.PT.imp (h : PT X e tt) (hi : ∀ σ H Q, tt' σ H Q → tt σ H Q) : PT X e tt' := ⟨fun pins s σ H Q I q => h.run pins s σ H Q I (hi σ H Q q)⟩
theorem _root_.L2.PW.imp (h : PW X e tt) (hi : ∀ σ H Q, tt' σ H Q → tt σ H Q) : PW X e tt' := ⟨fun wh pins s σ H Q I q => h.run wh pins s σ H Q I (hi σ H Q q)⟩
theorem _root_.L2.PA.imp (h : PA X es ta) (hi : ∀ σ H Q, ta' σ H Q → ta σ H Q) : PA X es ta' := ⟨fun pos pins s σ H Q I q => h.run pos pins s σ H Q I (hi σ H Q q)⟩
theorem _root_.L2.PO.imp (h : PO X oe to) (hi : ∀ σ H Q, to' σ H Q → to σ H Q) : PO X oe to' := ⟨fun pins s σ H Q I q => h.run pins s σ H Q I (hi σ H Q q)⟩
theorem _root_.L2.PS.imp (h : PS X st ts) (hi : ∀ D σ H, ts' D σ H → ts D σ H) : PS X st ts' := ⟨fun pins s σ H D I q => h.run pins s σ H D I (hi D σ H q)⟩
theorem _root_.L2.PSs.imp (h : PSs X sts ts) (hi : ∀ D σ H, ts' D σ H → ts D σ H) : PSs X sts ts' := ⟨fun pins s σ H D I q => h.run pins s σ H D I (hi D σ H q)⟩
end
end Z

set_option Elab.async false
set_option linter.all false
set_option maxRecDepth 100000
set_option maxHeartbeats 4000000
/-! ZExpr: expressions as functions on a store. -/
namespace Z
open PySem L2

def lim : Nat := 1000000
theorem lim_line {n : Nat} (h : n ≤ lim) : n ≤ sizeLine := by rw [sizeLine_eq]; unfold lim at h; omega
theorem lim_line' {n : Nat} (h : n < lim) : n < sizeLine := by rw [sizeLine_eq]; unfold lim at h; omega

/-! ### what a function is, construct by construct -/
def mVar (i : Nat) : M D := fun ρ s => match ρ[i]? with
  | some (some d) => .ok d s
  | _ => .bad
def mC (d : D) : M D := fun _ s => .ok d s
def mBin (g : D → D → S → R D) (ma mb : M D) : M D := fun ρ s => (ma ρ s).bind fun x s1 => (mb ρ s1).bind fun y s2 => g x y s2
def mUn (g : D → S → R D) (ma : M D) : M D := fun ρ s => (ma ρ s).bind fun x s1 => g x s1
def mNil : M (List D) := fun _ s => .ok [] s
def mCons (ma : M D) (mr : M (List D)) : M (List D) := fun ρ s => (ma ρ s).bind fun x s1 => (mr ρ s1).bind fun xs s2 => .ok (x :: xs) s2
def mTup (m : M (List D)) : M D := fun ρ s => (m ρ s).bind fun xs s1 => if xs.length ≤ lim then .ok (.tup xs) s1 else .bad
def mLst (m : M (List D)) : M D := fun ρ s => (m ρ s).bind fun xs s1 => if xs.length ≤ lim then .ok (.ref s1.length) (s1 ++ [.lst xs]) else .bad
/-- {}; t: its keys will be tuples -/
def mDct (t : Bool) : M D := fun _ s => .ok (.ref s.length) (s ++ [.dct t false []])
/-- the items of a list that is read -/
def O.items : O → Option (List D)
  | .lst ds => some ds
  | _ => none
def lstAt (s : S) (n : Nat) : Option (List D) := s[n]?.bind O.items
/-- truth -/
def truD (s : S) : D → Option Bool
  | .non => some false
  | .bl b => some b
  | .int i => some (i != 0)
  | .str x => if x.length ≤ lim then some ((x.length : Int) != 0) else none
  | .tup ds => some (!ds.isEmpty)
  | .ref n => (lstAt s n).map fun ds => !ds.isEmpty
  | .kl _ ns => some (!ns.isEmpty)
  | _ => none
def R.of {α : Type} (o : Option α) (s : S) : R α := match o with
  | some a => .ok a s
  | none => .bad
def mTru (m : M D) : M Bool := fun ρ s => (m ρ s).bind fun d s1 => R.of (truD s1 d) s1
/-- a test whose value is a truth value -/
def blD (d : D) (s : S) : R Bool := match d with
  | .bl b => .ok b s
  | _ => .bad
def mB (m : M D) : M Bool := fun ρ s => (m ρ s).bind blD
def mOfB (m : M Bool) : M D := fun ρ s => (m ρ s).bind fun b s1 => .ok (.bl b) s1
def mAndB (a b : M Bool) : M Bool := fun ρ s => (a ρ s).bind fun c s1 => if c = true then b ρ s1 else .ok false s1
def mOrB (a b : M Bool) : M Bool := fun ρ s => (a ρ s).bind fun c s1 => if c = true then .ok true s1 else b ρ s1
def mNotB (a : M Bool) : M Bool := fun ρ s => (a ρ s).bind fun c s1 => .ok (!c) s1
/-- and, or, not as values -/
def mAnd (a b : M D) : M D := fun ρ s => (a ρ s).bind fun x s1 => match truD s1 x with
  | some true => b ρ s1
  | some false => .ok x s1
  | none => .bad
def mOr (a b : M D) : M D := fun ρ s => (a ρ s).bind fun x s1 => match truD s1 x with
  | some true => .ok x s1
  | some false => b ρ s1
  | none => .bad
def mNot (a : M D) : M D := fun ρ s => (a ρ s).bind fun x s1 => R.of ((truD s1 x).map fun c => .bl (!c)) s1
def mIf (c : M Bool) (a b : M D) : M D := fun ρ s => (c ρ s).bind fun k s1 => if k = true then a ρ s1 else b ρ s1
/-- a op b op' c -/
def mChain (g g' : D → D → S → R D) (ma mb mc : M D) : M D := fun ρ s => (ma ρ s).bind fun x s1 => (mb ρ s1).bind fun y s2 => (g x y s2).bind fun z s3 => match z with
  | .bl true => (mc ρ s3).bind fun w s4 => g' y w s4
  | .bl false => .ok (.bl false) s3
  | _ => .bad

/-! ### the operators -/
def gAdd : D → D → S → R D
  | .int i, .int j, s => .ok (.int (i + j)) s
  | .str x, .str y, s => if x.length + y.length ≤ lim then .ok (.str (x ++ y)) s else .bad
  | .tup xs, .tup ys, s => if xs.length + ys.length ≤ lim then .ok (.tup (xs ++ ys)) s else .bad
  | .ref n, .ref m, s => match s[n]?, s[m]? with
    | some (.lst xs), some (.lst ys) => if xs.length + ys.length ≤ lim then .ok (.ref s.length) (s ++ [.lst (xs ++ ys)]) else .bad
    | _, _ => .bad
  | _, _, _ => .bad
def gSub : D → D → S → R D
  | .int i, .int j, s => .ok (.int (i - j)) s
  | _, _, _ => .bad
def CM (i j : Int) : Prop := i.natAbs < 2 ^ 64 ∨ j.natAbs < 2 ^ 64
instance (i j : Int) : Decidable (CM i j) := by unfold CM; infer_instance
def gMul : D → D → S → R D
  | .int i, .int j, s => if CM i j then .ok (.int (i * j)) s else .bad
  | _, _, _ => .bad
def CDv (_ j : Int) : Prop := 0 < j ∧ j.natAbs < 2 ^ 8000
instance (i j : Int) : Decidable (CDv i j) := by unfold CDv; infer_instance
def gFdv : D → D → S → R D
  | .int i, .int j, s => if CDv i j then .ok (.int (i / j)) s else .bad
  | _, _, _ => .bad
def gMod : D → D → S → R D
  | .int i, .int j, s => if 0 < j then .ok (.int (i % j)) s else .bad
  | _, _, _ => .bad
def CSh (i j : Int) : Prop := 0 ≤ j ∧ j.toNat ≤ 1000000 ∧ i.natAbs < 2 ^ 64
instance (i j : Int) : Decidable (CSh i j) := by unfold CSh; infer_instance
def gShl : D → D → S → R D
  | .int i, .int j, s => if CSh i j then .ok (.int (i * 2 ^ j.toNat)) s else .bad
  | _, _, _ => .bad
def gPow : D → D → S → R D
  | .int i, .int j, s => if CSh i j then .ok (.int (i ^ j.toNat)) s else .bad
  | _, _, _ => .bad
def gShr : D → D → S → R D
  | .int i, .int j, s => if 0 ≤ j then .ok (.int (i / 2 ^ j.toNat)) s else .bad
  | _, _, _ => .bad
def gAnd : D → D → S → R D
  | .int i, .int j, s => .ok (.int (Builtin.bitAnd i j)) s
  | _, _, _ => .bad
def gXor : D → D → S → R D
  | .int i, .int j, s => .ok (.int (Builtin.bitXor i j)) s
  | _, _, _ => .bad
def gOr : D → D → S → R D
  | .int i, .int j, s => .ok (.int (Builtin.bitOr i j)) s
  | _, _, _ => .bad
def gNeg : D → S → R D
  | .int i, s => .ok (.int (-i)) s
  | _, _ => .bad

/-- an operator's function against its rule -/
def OpF (z : Cz) (g : D → D → S → R D) (r : R2) : Prop :=
  ∀ (W : WX) (σ : St) (L : List Addr) (s : S) (H : Hp) (x y : D) (v u : V) (Q : VK), RepS z L s H → RepV z.K L H x v → RepV z.K L H y u → Post z (RepV z.K) W σ L H (g x y s) Q → r v u H Q
def UnF (z : Cz) (g : D → S → R D) (r : V → Hp → VK → Prop) : Prop :=
  ∀ (W : WX) (σ : St) (L : List Addr) (s : S) (H : Hp) (x : D) (v : V) (Q : VK), RepS z L s H → RepV z.K L H x v → Post z (RepV z.K) W σ L H (g x s) Q → r v H Q
section
variable {z : Cz} {α β : Type} {rep : Rep α β} {W : WX} {σ : St} {L L' : List Addr} {H H' : Hp} {s s' : S} {a : α} {b : β} {Q : β → Hp → Prop}
/-- a value as it stands -/
theorem Post.done (h : Post z rep W σ L H (.ok a s) Q) (r : RepS z L s H) (hv : rep L H a b) : Q b H := h b L H Ext.refl r hv
end

section
variable {z : Cz}
theorem f_add : OpF z gAdd (fun x y H Q => rI0 (fun i j => .int (i + j)) x y H Q ∨ (∃ i j, x = .str i ∧ y = .str j ∧ i.length + j.length ≤ sizeLine ∧ Q (.str (i ++ j)) H) ∨ rCatA z.K x y H Q ∨ rCat x y H Q) := by
  intro W σ L s H x y v u Q rs rx ry h
  unfold gAdd at h
  split at h
  · cases rx; cases ry
    exact .inl ⟨_, _, rfl, rfl, h.done rs rfl⟩
  · cases rx; cases ry
    split at h
    · rename_i hl
      exact .inr (.inl ⟨_, _, rfl, rfl, lim_line hl, h.done rs rfl⟩)
    · exact h.elim
  · obtain ⟨a, xs', rfl, hx, hxs⟩ := rx
    obtain ⟨b, ys', rfl, hy, hys⟩ := ry
    split at h
    · rename_i hl
      refine .inr (.inr (.inl ⟨a, b, xs', ys', rfl, rfl, hx, hy, by rw [← hxs.len, ← hys.len]; exact lim_line hl, fun e => ?_, fun _ e => ?_, fun _ _ p hp => ?_⟩))
      · subst e
        refine h.done rs ⟨b, ys', rfl, hy, ?_⟩
        have := hxs.len
        simp at this
        subst this
        exact hys
      · subst e
        refine h.done rs ⟨a, xs', rfl, hx, ?_⟩
        have := hys.len
        simp at this
        subst this
        simpa using hxs
      · exact h _ L _ (Ext.other hp) (rs.other hp) ⟨p, xs' ++ ys', rfl, SqT.of upd_same, (hxs.append hys).ext rs (Ext.other hp)⟩
    · exact h.elim
  · obtain ⟨a, ha, rfl⟩ := rx
    obtain ⟨b, hb, rfl⟩ := ry
    split at h
    · rename_i xs ys hn hm
      split at h
      · rename_i hl
        obtain ⟨vs, e1, r1⟩ := rs.at_ _ _ _ ha hn
        obtain ⟨ws, e2, r2⟩ := rs.at_ _ _ _ hb hm
        refine .inr (.inr (.inr ⟨a, b, vs, ws, rfl, rfl, e1, e2, by rw [← r1.len, ← r2.len]; exact lim_line hl, fun p hp => ?_⟩))
        refine h _ (L ++ [p]) _ (Ext.new rs hp) (rs.new hp ⟨vs ++ ws, upd_same, (r1.append r2).ext rs (Ext.new rs hp)⟩) ⟨p, ?_, rfl⟩
        rw [← rs.len]; simp
      · exact h.elim
    · exact h.elim
  · exact h.elim
theorem f_int0 {g : D → D → S → R D} {f : Int → Int → V} {f' : Int → Int → D} (hf : ∀ i j L H, RepV z.K L H (f' i j) (f i j)) (hg : ∀ x y s, (∃ i j, x = .int i ∧ y = .int j ∧ g x y s = .ok (f' i j) s) ∨ g x y s = .bad) : OpF z g (rI0 f) := by
  intro W σ L s H x y v u Q rs rx ry h
  rcases hg x y s with ⟨i, j, rfl, rfl, e⟩ | e
  · rw [e] at h
    cases rx; cases ry
    exact ⟨i, j, rfl, rfl, h.done rs (hf i j L H)⟩
  · rw [e] at h; exact h.elim
theorem f_int {g : D → D → S → R D} {C : Int → Int → Prop} {f : Int → Int → V} {f' : Int → Int → D} (hf : ∀ i j L H, RepV z.K L H (f' i j) (f i j)) (hg : ∀ x y s, (∃ i j, x = .int i ∧ y = .int j ∧ C i j ∧ g x y s = .ok (f' i j) s) ∨ g x y s = .bad) : OpF z g (rI C f) := by
  intro W σ L s H x y v u Q rs rx ry h
  rcases hg x y s with ⟨i, j, rfl, rfl, hc, e⟩ | e
  · rw [e] at h
    cases rx; cases ry
    exact ⟨i, j, rfl, rfl, hc, h.done rs (hf i j L H)⟩
  · rw [e] at h; exact h.elim
theorem f_sub : OpF z gSub (rI0 fun i j => .int (i - j)) := f_int0 (f' := fun i j => .int (i - j)) (fun _ _ _ _ => rfl) fun x y s => by unfold gSub; split <;> simp
theorem f_mul : OpF z gMul (rI CMul fun i j => .int (i * j)) := f_int (f' := fun i j => .int (i * j)) (fun _ _ _ _ => rfl) fun x y s => by
  unfold gMul; split
  · rename_i i j
    split
    · rename_i h
      refine .inl ⟨i, j, rfl, rfl, ?_, rfl⟩
      rcases h with h | h
      · left; omega
      · right; omega
    · exact .inr rfl
  · exact .inr rfl
theorem f_fdv : OpF z gFdv (rI CDivW fun i j => .int (i / j)) := f_int (f' := fun i j => .int (i / j)) (fun _ _ _ _ => rfl) fun x y s => by
  unfold gFdv; split
  · rename_i i j
    split
    · rename_i h
      exact .inl ⟨i, j, rfl, rfl, wide_div h.1 h.2 (by decide) (by decide), rfl⟩
    · exact .inr rfl
  · exact .inr rfl
theorem f_mod : OpF z gMod (rI (fun _ j => 0 < j) fun i j => .int (i % j)) := f_int (f' := fun i j => .int (i % j)) (fun _ _ _ _ => rfl) fun x y s => by
  unfold gMod; split
  · rename_i i j
    split
    · rename_i h; exact .inl ⟨i, j, rfl, rfl, h, rfl⟩
    · exact .inr rfl
  · exact .inr rfl
theorem CSh.pow {i j : Int} (h : CSh i j) : CPow i j := ⟨h.1, by have := h.1; have := h.2.1; omega, h.2.2⟩
theorem f_shl : OpF z gShl (rI CPow fun i j => .int (i * 2 ^ j.toNat)) := f_int (f' := fun i j => .int (i * 2 ^ j.toNat)) (fun _ _ _ _ => rfl) fun x y s => by
  unfold gShl; split
  · rename_i i j
    split
    · rename_i h; exact .inl ⟨i, j, rfl, rfl, h.pow, rfl⟩
    · exact .inr rfl
  · exact .inr rfl
theorem f_pow : OpF z gPow (rI CPow fun i j => .int (i ^ j.toNat)) := f_int (f' := fun i j => .int (i ^ j.toNat)) (fun _ _ _ _ => rfl) fun x y s => by
  unfold gPow; split
  · rename_i i j
    split
    · rename_i h; exact .inl ⟨i, j, rfl, rfl, h.pow, rfl⟩
    · exact .inr rfl
  · exact .inr rfl
theorem f_shr : OpF z gShr (rI (fun _ j => 0 ≤ j) fun i j => .int (i / 2 ^ j.toNat)) := f_int (f' := fun i j => .int (i / 2 ^ j.toNat)) (fun _ _ _ _ => rfl) fun x y s => by
  unfold gShr; split
  · rename_i i j
    split
    · rename_i h; exact .inl ⟨i, j, rfl, rfl, h, rfl⟩
    · exact .inr rfl
  · exact .inr rfl
theorem f_and : OpF z gAnd (rI0 fun i j => .int (Builtin.bitAnd i j)) := f_int0 (f' := fun i j => .int (Builtin.bitAnd i j)) (fun _ _ _ _ => rfl) fun x y s => by unfold gAnd; split <;> simp
theorem f_xor : OpF z gXor (rI0 fun i j => .int (Builtin.bitXor i j)) := f_int0 (f' := fun i j => .int (Builtin.bitXor i j)) (fun _ _ _ _ => rfl) fun x y s => by unfold gXor; split <;> simp
theorem f_or : OpF z gOr (rI0 fun i j => .int (Builtin.bitOr i j)) := f_int0 (f' := fun i j => .int (Builtin.bitOr i j)) (fun _ _ _ _ => rfl) fun x y s => by unfold gOr; split <;> simp
theorem f_neg : UnF z gNeg (rU fun i => .int (-i)) := by
  intro W σ L s H x v Q rs rx h
  unfold gNeg at h
  split at h
  · cases rx
    exact ⟨_, rfl, h.done rs rfl⟩
  · exact h.elim
end

/-! ### the rules -/
section
variable {X : Cx} {W : WX} {a b c : Expr} {ma mb mc : M D} {pos : Pos}
theorem e_var (i : Nat) {x : Str} (hN : X.N[i]? = some x := by rfl) (hv : Vis X.env.scope x := by first | exact Or.inl rfl | exact Or.inr (Or.inl rfl) | exact Or.inr (Or.inr rfl)) (hd : (x == ("__debug__" : Str)) = false := by decide)
    (hcd : (x == ("__classdict__" : Str)) = false := by decide) : PE X (.Name x pos) (tE X W (mVar i)) := (pe_var hN hv hd hcd).imp fun σ H Q h => by
  obtain ⟨ρ, L, s, h1, h2, h3⟩ := h
  unfold mVar at h3
  split at h3
  · rename_i d e
    obtain ⟨v, e', r⟩ := h1.2 _ _ e
    exact ⟨v, e', h3.done h2 r⟩
  · exact h3.elim
theorem imp_C {d : D} {v : V} (hr : ∀ L H, RepV X.K L H d v) {e : Expr} (h : PE X e (tC v)) : PE X e (tE X W (mC d)) := h.imp fun σ H Q ⟨ρ, L, s, h1, h2, h3⟩ => h3.done h2 (hr L H)
theorem e_int {i : Int} {j} : PE X (.Constant (.int i) j pos) (tE X W (mC (.int i))) := imp_C (v := (.int i)) (d := (.int i)) (fun _ _ => rfl) pe_int
theorem e_bl {i : Bool} {j} : PE X (.Constant (.bool i) j pos) (tE X W (mC (.bl i))) := imp_C (v := (.bl i)) (d := (.bl i)) (fun _ _ => rfl) pe_bl
theorem e_non {j} : PE X (.Constant .none j pos) (tE X W (mC .non)) := imp_C (v := .non) (d := .non) (fun _ _ => rfl) pe_non
theorem e_str {x : Str} {j} : PE X (.Constant (.str x) j pos) (tE X W (mC (.str x))) := imp_C (v := (.str x)) (d := (.str x)) (fun _ _ => rfl) pe_str
theorem e_bin {op : Operator} {g : D → D → S → R D} {r : R2} (ho : OpR X (binaryOp op) r) (hg : OpF X.z g r) (ha : PE X a (tE X W ma)) (hb : PE X b (tE X W mb)) : PE X (.BinOp a op b pos) (tE X W (mBin g ma mb)) :=
  (pe_op ho ha hb).imp fun σ H Q ⟨ρ, L, s, h1, h2, h3⟩ => ⟨ρ, L, s, h1, h2, (Post.bind (rep := RepV X.K) h3).mono fun v1 H1 ⟨d1, L1, s1, e1, rs1, rv1, p1⟩ =>
    ⟨ρ, L1, s1, h1.ext h2 e1, rs1, (Post.bind (rep := RepV X.K) p1).mono fun v2 H2 ⟨d2, L2, s2, e2, rs2, rv2, p2⟩ => hg W σ L2 s2 H2 d1 d2 v1 v2 Q rs2 (rv1.ext rs1 e2) rv2 p2⟩⟩
theorem e_cmp {op : CmpOp} {g : D → D → S → R D} {r : R2} (ho : OpR X (compareOp op) r) (hg : OpF X.z g r) (ha : PE X a (tE X W ma)) (hb : PE X b (tE X W mb)) (hm : behindInMarks op b = false) : PE X (.Compare a [op] [b] pos) (tE X W (mBin g ma mb)) :=
  (pe_cmpR ho ha hb hm).imp fun σ H Q ⟨ρ, L, s, h1, h2, h3⟩ => ⟨ρ, L, s, h1, h2, (Post.bind (rep := RepV X.K) h3).mono fun v1 H1 ⟨d1, L1, s1, e1, rs1, rv1, p1⟩ =>
    ⟨ρ, L1, s1, h1.ext h2 e1, rs1, (Post.bind (rep := RepV X.K) p1).mono fun v2 H2 ⟨d2, L2, s2, e2, rs2, rv2, p2⟩ => hg W σ L2 s2 H2 d1 d2 v1 v2 Q rs2 (rv1.ext rs1 e2) rv2 p2⟩⟩
/-- a truth value told by its datum -/
theorem post_B {z : Cz} {σ : St} {L : List Addr} {H : Hp} {d : D} {s : S} {Q : Bool → Hp → Prop} {v : V} (rs : RepS z L s H) (rv : RepV z.K L H d v)
    (h : Post z RB W σ L H (blD d s) Q) : ∃ k, v = .bl k ∧ Q k H := by
  cases d with
  | bl b => cases rv; exact ⟨b, rfl, h.done rs rfl⟩
  | _ => exact h.elim
theorem t_cmp {op : CmpOp} {g : D → D → S → R D} {r : R2} (ho : OpR X (compareOp op) r) (hg : OpF X.z g r) (ha : PE X a (tE X W ma)) (hb : PE X b (tE X W mb)) (hm : behindInMarks op b = false) : PT X (.Compare a [op] [b] pos) (tT X W (mB (mBin g ma mb))) :=
  (pt_cmpR ho ha hb hm).imp fun σ H Q ⟨ρ, L, s, h1, h2, h3⟩ => by
    unfold mB at h3
    refine ⟨ρ, L, s, h1, h2, (Post.bind (rep := RepV X.K) (Post.bind (rep := RepV X.K) h3)).mono fun v1 H1 ⟨d1, L1, s1, e1, rs1, rv1, p1⟩ => ?_⟩
    refine ⟨ρ, L1, s1, h1.ext h2 e1, rs1, (Post.bind (rep := RepV X.K) p1).mono fun v2 H2 ⟨d2, L2, s2, e2, rs2, rv2, p2⟩ => ?_⟩
    refine hg W σ L2 s2 H2 d1 d2 v1 v2 _ rs2 (rv1.ext rs1 e2) rv2 (p2.mono fun v3 H3 ⟨d3, L3, s3, e3, rs3, rv3, p3⟩ => ?_)
    exact post_B rs3 rv3 p3
theorem e_un {op : UnaryOp} {g : D → S → R D} {r : V → Hp → VK → Prop} (ho : UnR X (unaryOp op) r) (hg : UnF X.z g r) (ha : PE X a (tE X W ma)) : PE X (.UnaryOp op a pos) (tE X W (mUn g ma)) :=
  (pe_un ho ha).imp fun σ H Q ⟨ρ, L, s, h1, h2, h3⟩ => ⟨ρ, L, s, h1, h2, (Post.bind (rep := RepV X.K) h3).mono fun v1 H1 ⟨d1, L1, s1, e1, rs1, rv1, p1⟩ => hg W σ L1 s1 H1 d1 v1 Q rs1 rv1 p1⟩
/-! arguments, displays -/
theorem a_nil : PA X [] (tA X W mNil) := pa_nil.imp fun σ H Q ⟨ρ, L, s, h1, h2, h3⟩ => h3.done h2 RepVs.nil
theorem a_cons {e : Expr} {es : List Expr} {m : M D} {mr : M (List D)} (ha : PE X e (tE X W m)) (hr : PA X es (tA X W mr)) (hs : starEach (e :: es) X.env = (false, eval e X.env) :: starEach es X.env := by rfl) : PA X (e :: es) (tA X W (mCons m mr)) :=
  (pa_cons ha hr hs).imp fun σ H Q ⟨ρ, L, s, h1, h2, h3⟩ => ⟨ρ, L, s, h1, h2, (Post.bind (rep := RepV X.K) h3).mono fun v1 H1 ⟨d1, L1, s1, e1, rs1, rv1, p1⟩ =>
    ⟨ρ, L1, s1, h1.ext h2 e1, rs1, (Post.bind (rep := RepVs X.K) p1).mono fun v2 H2 ⟨d2, L2, s2, e2, rs2, rv2, p2⟩ => p2.done rs2 (RepVs.cons (rv1.ext rs1 e2) rv2)⟩⟩
theorem e_tup {es : List Expr} {x1} {m : M (List D)} (h : PA X es (tA X W m)) : PE X (.Tuple es x1 pos) (tE X W (mTup m)) :=
  (pe_tup h).imp fun σ H Q ⟨ρ, L, s, h1, h2, h3⟩ => ⟨ρ, L, s, h1, h2, (Post.bind (rep := RepVs X.K) h3).mono fun vs H1 ⟨ds, L1, s1, e1, rs1, rv1, p1⟩ => by
    split at p1
    · rename_i hl
      refine ⟨by rw [← rv1.len]; exact lim_line hl, fun p hp => ?_⟩
      exact p1 _ L1 _ (Ext.other hp) (rs1.other hp) ⟨p, vs, rfl, SqT.of upd_same, rv1.ext rs1 (Ext.other hp)⟩
    · exact p1.elim⟩
theorem e_lst {es : List Expr} {m : M (List D)} (h : PA X es (tA X W m)) : PE X (.List es pos) (tE X W (mLst m)) :=
  (pe_lst h).imp fun σ H Q ⟨ρ, L, s, h1, h2, h3⟩ => ⟨ρ, L, s, h1, h2, (Post.bind (rep := RepVs X.K) h3).mono fun vs H1 ⟨ds, L1, s1, e1, rs1, rv1, p1⟩ => by
    split at p1
    · rename_i hl
      refine ⟨by rw [← rv1.len]; exact lim_line hl, fun p hp => ?_⟩
      refine p1 _ (L1 ++ [p]) _ (Ext.new rs1 hp) (rs1.new hp ⟨vs, upd_same, rv1.ext rs1 (Ext.new rs1 hp)⟩) ⟨p, ?_, rfl⟩
      rw [← rs1.len]; simp
    · exact p1.elim⟩
/-! truth -/
theorem lst_V {z : Cz} {L : List Addr} {H : Hp} {s : S} {n : Nat} {a : Addr} {ds : List D} (rs : RepS z L s H) (ha : L[n]? = some a) (h : lstAt s n = some ds) : ∃ vs, SqL z.K H a vs ∧ RepVs z.K L H ds vs := by
  obtain ⟨o, ho, h⟩ := Option.bind_eq_some_iff.mp h
  cases o with
  | lst xs =>
    cases h
    obtain ⟨vs, e1, hv⟩ := rs.at_ _ _ _ ha ho
    exact ⟨vs, SqL.of e1, hv⟩
  | dct t lk kvs => cases h
theorem tru_V {z : Cz} {L : List Addr} {H : Hp} {d : D} {s : S} {v : V} {k : Bool} (rs : RepS z L s H) (rv : RepV z.K L H d v) (h : truD s d = some k) : TruV z.K v H k := by
  cases d with
  | non => cases rv; cases h; rfl
  | bl b => cases rv; cases h; rfl
  | int i => cases rv; cases h; rfl
  | str x =>
    cases rv
    have h : (if x.length ≤ lim then some ((x.length : Int) != 0) else none) = some k := h
    split at h
    · rename_i hl; cases h; exact ⟨lim_line hl, rfl⟩
    · cases h
  | tup ds =>
    obtain ⟨a, vs, rfl, ht, hv⟩ := rv
    cases h
    refine .inr (.inl ⟨vs, ht, ?_⟩)
    have := hv.len
    cases ds <;> cases vs <;> simp_all
  | ref n =>
    obtain ⟨a, ha, rfl⟩ := rv
    have h : (lstAt s n).map (fun ds => !ds.isEmpty) = some k := h
    obtain ⟨ds, e, h⟩ := Option.map_eq_some_iff.mp h
    obtain ⟨vs, e1, hv⟩ := lst_V rs ha e
    refine .inl ⟨vs, e1, ?_⟩
    have := hv.len
    cases ds <;> cases vs <;> simp_all
  | ty x => cases h
  | kl a ns =>
    obtain ⟨rfl, hk⟩ := rv
    have h : some (!ns.isEmpty) = some k := h
    cases h
    refine .inl ⟨_, hk.sq, ?_⟩
    cases ns <;> rfl
theorem t_tru (ha : PE X a (tE X W ma)) (he : ∀ whole, isTrue a X.env whole = (do let v ← whole; standAt a.pos; holding [v] (truthy v)) := by intro _; rfl) : PT X a (tT X W (mTru ma)) :=
  (pt_truth ha he).imp fun σ H Q ⟨ρ, L, s, h1, h2, h3⟩ => ⟨ρ, L, s, h1, h2, (Post.bind (rep := RepV X.K) h3).mono fun v1 H1 ⟨d1, L1, s1, e1, rs1, rv1, p1⟩ => by
    cases e : truD s1 d1 with
    | some k => rw [e] at p1; exact ⟨k, tru_V rs1 rv1 e, p1.done rs1 rfl⟩
    | none => rw [e] at p1; exact p1.elim⟩
/-! and, or, not as tests -/
variable {A B : M Bool} {rest : List Expr}
theorem w_and1 (ha : PT X a (tT X W A)) : PW X (.BoolOp .And [a] pos) (tT X W A) := pw_and1 ha
theorem w_or1 (ha : PT X a (tT X W A)) : PW X (.BoolOp .Or [a] pos) (tT X W A) := pw_or1 ha
theorem w_and (ha : PT X a (tT X W A)) (hb : PW X (.BoolOp .And (b :: rest) pos) (tT X W B)) : PW X (.BoolOp .And (a :: b :: rest) pos) (tT X W (mAndB A B)) :=
  (pw_and ha hb).imp fun σ H Q ⟨ρ, L, s, h1, h2, h3⟩ => ⟨ρ, L, s, h1, h2, (Post.bind (rep := RB) h3).mono fun k H1 ⟨d1, L1, s1, e1, rs1, rv1, p1⟩ => by
    have rv1 : k = d1 := rv1
    subst rv1
    cases k with
    | true => exact ⟨ρ, L1, s1, h1.ext h2 e1, rs1, p1⟩
    | false => exact p1.done rs1 rfl⟩
theorem w_or (ha : PT X a (tT X W A)) (hb : PW X (.BoolOp .Or (b :: rest) pos) (tT X W B)) : PW X (.BoolOp .Or (a :: b :: rest) pos) (tT X W (mOrB A B)) :=
  (pw_or ha hb).imp fun σ H Q ⟨ρ, L, s, h1, h2, h3⟩ => ⟨ρ, L, s, h1, h2, (Post.bind (rep := RB) h3).mono fun k H1 ⟨d1, L1, s1, e1, rs1, rv1, p1⟩ => by
    have rv1 : k = d1 := rv1
    subst rv1
    cases k with
    | false => exact ⟨ρ, L1, s1, h1.ext h2 e1, rs1, p1⟩
    | true => exact p1.done rs1 rfl⟩
theorem t_bool {e : Expr} (h : PW X e (tT X W A)) : PT X e (tT X W A) := h.pt
theorem t_not (ha : PT X a (tT X W A)) : PT X (.UnaryOp .Not a pos) (tT X W (mNotB A)) :=
  (pt_not ha).imp fun σ H Q ⟨ρ, L, s, h1, h2, h3⟩ => ⟨ρ, L, s, h1, h2, (Post.bind (rep := RB) h3).mono fun k H1 ⟨d1, L1, s1, e1, rs1, rv1, p1⟩ => p1.done rs1 (by have rv1 : k = d1 := rv1; rw [rv1]; rfl)⟩
/-! .. as values -/
theorem e_one {op} {m : M D} (h : PE X a (tE X W m)) : PE X (.BoolOp op [a] pos) (tE X W m) := pe_one h
theorem e_and (ha : PE X a (tE X W ma)) (hb : PE X (.BoolOp .And (b :: rest) pos) (tE X W mb)) : PE X (.BoolOp .And (a :: b :: rest) pos) (tE X W (mAnd ma mb)) :=
  (pe_andT ha hb).imp fun σ H Q ⟨ρ, L, s, h1, h2, h3⟩ => ⟨ρ, L, s, h1, h2, (Post.bind (rep := RepV X.K) h3).mono fun v1 H1 ⟨d1, L1, s1, e1, rs1, rv1, p1⟩ => by
    cases e : truD s1 d1 with
    | none => rw [e] at p1; exact p1.elim
    | some k =>
      refine ⟨k, tru_V rs1 rv1 e, ?_⟩
      rw [e] at p1
      cases k with
      | true => exact ⟨ρ, L1, s1, h1.ext h2 e1, rs1, p1⟩
      | false => exact p1.done rs1 rv1⟩
theorem e_or (ha : PE X a (tE X W ma)) (hb : PE X (.BoolOp .Or (b :: rest) pos) (tE X W mb)) : PE X (.BoolOp .Or (a :: b :: rest) pos) (tE X W (mOr ma mb)) :=
  (pe_orT ha hb).imp fun σ H Q ⟨ρ, L, s, h1, h2, h3⟩ => ⟨ρ, L, s, h1, h2, (Post.bind (rep := RepV X.K) h3).mono fun v1 H1 ⟨d1, L1, s1, e1, rs1, rv1, p1⟩ => by
    cases e : truD s1 d1 with
    | none => rw [e] at p1; exact p1.elim
    | some k =>
      refine ⟨k, tru_V rs1 rv1 e, ?_⟩
      rw [e] at p1
      cases k with
      | true => exact p1.done rs1 rv1
      | false => exact ⟨ρ, L1, s1, h1.ext h2 e1, rs1, p1⟩⟩
theorem e_not (ha : PE X a (tE X W ma)) : PE X (.UnaryOp .Not a pos) (tE X W (mNot ma)) :=
  (pe_notT ha).imp fun σ H Q ⟨ρ, L, s, h1, h2, h3⟩ => ⟨ρ, L, s, h1, h2, (Post.bind (rep := RepV X.K) h3).mono fun v1 H1 ⟨d1, L1, s1, e1, rs1, rv1, p1⟩ => by
    cases e : truD s1 d1 with
    | none => rw [e] at p1; exact p1.elim
    | some k =>
      refine ⟨k, tru_V rs1 rv1 e, ?_⟩
      rw [e] at p1
      exact p1.done rs1 rfl⟩
theorem e_if {A : M Bool} (hc : PT X c (tT X W A)) (ha : PE X a (tE X W ma)) (hb : PE X b (tE X W mb)) : PE X (.IfExp c a b pos) (tE X W (mIf A ma mb)) :=
  (pe_ifExp hc ha hb).imp fun σ H Q ⟨ρ, L, s, h1, h2, h3⟩ => ⟨ρ, L, s, h1, h2, (Post.bind (rep := RB) h3).mono fun k H1 ⟨d1, L1, s1, e1, rs1, rv1, p1⟩ => by
    have rv1 : k = d1 := rv1
    subst rv1
    cases k with
    | true => exact ⟨ρ, L1, s1, h1.ext h2 e1, rs1, p1⟩
    | false => exact ⟨ρ, L1, s1, h1.ext h2 e1, rs1, p1⟩⟩
/-! a op b op c -/
theorem e_chain {op op' : CmpOp} {g g' : D → D → S → R D} {r r' : R2} (ho : OpR X (compareOp op) r) (ho' : OpR X (compareOp op') r') (hg : OpF X.z g r) (hg' : OpF X.z g' r') (ha : PE X a (tE X W ma)) (hb : PE X b (tE X W mb)) (hc : PE X c (tE X W mc))
    (hm : lastMarks [op, op'] [b, c] = false := by with_unfolding_all rfl) : PE X (.Compare a [op, op'] [b, c] pos) (tE X W (mChain g g' ma mb mc)) :=
  (pe_chain ho ho' ha hb hc hm).imp fun σ H Q ⟨ρ, L, s, h1, h2, h3⟩ => by
    unfold mChain at h3
    refine ⟨ρ, L, s, h1, h2, (Post.bind (rep := RepV X.K) h3).mono fun v1 H1 ⟨d1, L1, s1, e1, rs1, rv1, p1⟩ => ?_⟩
    refine ⟨ρ, L1, s1, h1.ext h2 e1, rs1, (Post.bind (rep := RepV X.K) p1).mono fun v2 H2 ⟨d2, L2, s2, e2, rs2, rv2, p2⟩ => ?_⟩
    refine hg W σ L2 s2 H2 d1 d2 v1 v2 _ rs2 (rv1.ext rs1 e2) rv2 ((Post.bind (rep := RepV X.K) p2).mono fun v3 H3 ⟨d3, L3, s3, e3, rs3, rv3, p3⟩ => ?_)
    cases d3 with
    | bl k =>
      cases rv3
      refine ⟨k, rfl, ?_⟩
      cases k with
      | true =>
        refine ⟨ρ, L3, s3, ((h1.ext h2 e1).ext rs1 e2).ext rs2 e3, rs3, (Post.bind (rep := RepV X.K) p3).mono fun v4 H4 ⟨d4, L4, s4, e4, rs4, rv4, p4⟩ => ?_⟩
        exact hg' W σ L4 s4 H4 d2 d4 v2 v4 Q rs4 ((rv2.ext rs2 e3).ext rs3 e4) rv4 p4
      | false => exact p3.done rs3 rfl
    | _ => exact p3.elim
theorem t_chain {op op' : CmpOp} {g g' : D → D → S → R D} {r r' : R2} (ho : OpR X (compareOp op) r) (ho' : OpR X (compareOp op') r') (hg : OpF X.z g r) (hg' : OpF X.z g' r') (ha : PE X a (tE X W ma)) (hb : PE X b (tE X W mb)) (hc : PE X c (tE X W mc))
    (hm : lastMarks [op, op'] [b, c] = false := by with_unfolding_all rfl) : PT X (.Compare a [op, op'] [b, c] pos) (tT X W (mB (mChain g g' ma mb mc))) :=
  (pt_chain ho ho' ha hb hc hm).imp fun σ H Q ⟨ρ, L, s, h1, h2, h3⟩ => by
    unfold mB mChain at h3
    refine ⟨ρ, L, s, h1, h2, (Post.bind (rep := RepV X.K) (Post.bind (rep := RepV X.K) h3)).mono fun v1 H1 ⟨d1, L1, s1, e1, rs1, rv1, p1⟩ => ?_⟩
    refine ⟨ρ, L1, s1, h1.ext h2 e1, rs1, (Post.bind (rep := RepV X.K) p1).mono fun v2 H2 ⟨d2, L2, s2, e2, rs2, rv2, p2⟩ => ?_⟩
    refine hg W σ L2 s2 H2 d1 d2 v1 v2 _ rs2 (rv1.ext rs1 e2) rv2 ((Post.bind (rep := RepV X.K) p2).mono fun v3 H3 ⟨d3, L3, s3, e3, rs3, rv3, p3⟩ => ?_)
    cases d3 with
    | bl k =>
      cases rv3
      refine ⟨k, rfl, ?_⟩
      cases k with
      | true =>
        refine ⟨ρ, L3, s3, ((h1.ext h2 e1).ext rs1 e2).ext rs2 e3, rs3, (Post.bind (rep := RepV X.K) p3).mono fun v4 H4 ⟨d4, L4, s4, e4, rs4, rv4, p4⟩ => ?_⟩
        refine hg' W σ L4 s4 H4 d2 d4 v2 v4 _ rs4 ((rv2.ext rs2 e3).ext rs3 e4) rv4 (p4.mono fun v5 H5 ⟨d5, L5, s5, e5, rs5, rv5, p5⟩ => ?_)
        exact post_B rs5 rv5 p5
      | false =>
        obtain ⟨d5, L5, s5, e5, rs5, rv5, p5⟩ := p3.done rs3 rfl
        exact post_B rs5 rv5 p5
    | _ => exact p3.elim
end
end Z

set_option Elab.async false
set_option linter.all false
set_option maxRecDepth 100000
set_option maxHeartbeats 4000000
/-! ZOps: comparisons, subscripts, slices, dicts, built-in functions, as functions on a store. -/
namespace Z
open PySem L2

/-! ### data as the library's data -/
mutual
def D.py : D → PyData
  | .non => .none
  | .bl b => .bool b
  | .int i => .int i
  | .str x => .str x
  | .tup ds => .tuple (D.pys ds)
  | .ref _ => .dict []
  | .ty _ => .dict []
  | .kl _ _ => .dict []
def D.pys : List D → List PyData
  | [] => []
  | d :: ds => D.py d :: D.pys ds
end
/-- a list's items, or the datum itself -/
def dataOf (s : S) : D → Option PyData
  | .ref n => (lstAt s n).map fun ds => .list (D.pys ds)
  | d => some d.py
section
variable {z : Cz} {L : List Addr} {H : Hp} {s : S}
mutual
theorem dp_of : ∀ (d : D) (v : V), RepV z.K L H d v → d.py.canLay0 = true → Dp z.K H v d.py
  | .non, _, h, _ => by cases h; exact .non
  | .bl b, _, h, _ => by cases h; exact .bl b
  | .int i, _, h, _ => by cases h; exact .int i
  | .str x, _, h, _ => by cases h; exact .str x
  | .tup ds, _, h, c => by
    obtain ⟨a, vs, rfl, h1, h2⟩ := h
    exact .tup h1 (dps_of ds vs h2 c)
  | .ref _, _, _, c => by cases c
  | .ty _, _, _, c => by cases c
  | .kl _ _, _, _, c => by cases c
theorem dps_of : ∀ (ds : List D) (vs : List V), RepVs z.K L H ds vs → PyData.canLayAll0 (D.pys ds) = true → DpAll z.K H vs (D.pys ds)
  | [], _, h, _ => by cases h; exact .nil
  | d :: ds, _, h, c => by
    obtain ⟨v, r, rfl, h1, h2⟩ := h
    have c' : (d.py.canLay0 && PyData.canLayAll0 (D.pys ds)) = true := c
    rw [Bool.and_eq_true] at c'
    exact .cons (dp_of d v h1 c'.1) (dps_of ds r h2 c'.2)
end
theorem dp_data {d : D} {v : V} {p : PyData} (rs : RepS z L s H) (rv : RepV z.K L H d v) (h : dataOf s d = some p) (c : SeqAt.shaped p = true) : Dp z.K H v p := by
  have c1 := SeqAt.canLay_of_shaped c
  cases d with
  | ref n =>
    obtain ⟨a, ha, rfl⟩ := rv
    obtain ⟨ds, e, rfl⟩ := Option.map_eq_some_iff.mp h
    obtain ⟨vs, e1, hv⟩ := lst_V rs ha e
    exact .lst e1 (dps_of ds vs hv c1)
  | _ => cases h; exact dp_of _ _ rv c1
end
/-! ### ==, != -/
def gEq (x y : D) (s : S) : R D := match dataOf s x, dataOf s y with
  | some a, some b => if SeqAt.shaped a && SeqAt.shaped b then .ok (.bl (PyData.eqv a b)) s else .bad
  | _, _ => .bad
def gNe (x y : D) (s : S) : R D := match dataOf s x, dataOf s y with
  | some a, some b => if SeqAt.shaped a && SeqAt.shaped b then .ok (.bl (!PyData.eqv a b)) s else .bad
  | _, _ => .bad
section
variable {z : Cz}
theorem f_eq : OpF z gEq (rEqD z.K) := by
  intro W σ L s H x y v u Q rs rx ry h
  unfold gEq at h
  split at h
  · rename_i a b e1 e2
    split at h
    · rename_i c
      rw [Bool.and_eq_true] at c
      exact ⟨a, b, dp_data rs rx e1 c.1, dp_data rs ry e2 c.2, c.1, c.2, h.done rs rfl⟩
    · exact h.elim
  · exact h.elim
theorem f_ne : OpF z gNe (rNeD z.K) := by
  intro W σ L s H x y v u Q rs rx ry h
  unfold gNe at h
  split at h
  · rename_i a b e1 e2
    split at h
    · rename_i c
      rw [Bool.and_eq_true] at c
      exact ⟨a, b, dp_data rs rx e1 c.1, dp_data rs ry e2 c.2, c.1, c.2, h.done rs rfl⟩
    · exact h.elim
  · exact h.elim
end
@[simp] theorem gEq_int (i j : Int) (s : S) : gEq (.int i) (.int j) s = .ok (.bl (decide (i = j))) s := by
  simp [gEq, dataOf, D.py, SeqAt.shaped, PyData.canLay0, PyData.depth, PyData.eqv, Bool.beq_eq_decide_eq]
@[simp] theorem gNe_int (i j : Int) (s : S) : gNe (.int i) (.int j) s = .ok (.bl (!decide (i = j))) s := by
  simp [gNe, dataOf, D.py, SeqAt.shaped, PyData.canLay0, PyData.depth, PyData.eqv, Bool.beq_eq_decide_eq]

/-! ### is -/
def gIs : D → D → S → R D
  | x, .non, s => .ok (.bl (decide (x = .non))) s
  | .bl a, .bl b, s => .ok (.bl (decide (a = b))) s
  | _, _, _ => .bad
def gIsNot : D → D → S → R D
  | x, .non, s => .ok (.bl (!decide (x = .non))) s
  | .bl a, .bl b, s => .ok (.bl (!decide (a = b))) s
  | _, _, _ => .bad
section
variable {z : Cz}
theorem non_iff {L : List Addr} {H : Hp} {d : D} {v : V} (r : RepV z.K L H d v) : decide (v = .non) = decide (d = .non) := by
  cases d with
  | non => cases r; rfl
  | ref n => obtain ⟨a, _, rfl⟩ := r; simp
  | tup ds => obtain ⟨a, vs, rfl, _⟩ := r; simp
  | kl a ns => obtain ⟨rfl, _⟩ := r; simp
  | _ => cases r; simp
theorem f_is : OpF z gIs (fun x y H Q => (y = .non ∧ Q (.bl (decide (x = .non))) H) ∨ (∃ a b, x = .bl a ∧ y = .bl b ∧ Q (.bl (decide (a = b))) H)) := by
  intro W σ L s H x y v u Q rs rx ry h
  unfold gIs at h
  split at h
  · have e := non_iff rx
    cases ry
    exact .inl ⟨rfl, by rw [e]; exact h.done rs rfl⟩
  · cases rx; cases ry
    exact .inr ⟨_, _, rfl, rfl, h.done rs rfl⟩
  · exact h.elim
theorem f_isNot : OpF z gIsNot (fun x y H Q => (y = .non ∧ Q (.bl (!decide (x = .non))) H) ∨ (∃ a b, x = .bl a ∧ y = .bl b ∧ Q (.bl (!decide (a = b))) H)) := by
  intro W σ L s H x y v u Q rs rx ry h
  unfold gIsNot at h
  split at h
  · have e := non_iff rx
    cases ry
    exact .inl ⟨rfl, by rw [e]; exact h.done rs rfl⟩
  · cases rx; cases ry
    exact .inr ⟨_, _, rfl, rfl, h.done rs rfl⟩
  · exact h.elim
end

/-! ### <, <=, >, >= of ints, texts -/
def gCmp (p : Int → Int → Bool) (q : List Nat → List Nat → Bool) : D → D → S → R D
  | .int i, .int j, s => .ok (.bl (p i j)) s
  | .str x, .str y, s => .ok (.bl (q x.cps.toList y.cps.toList)) s
  | _, _, _ => .bad
theorem f_cmp {z : Cz} {p : Int → Int → Bool} {q : List Nat → List Nat → Bool} {r r' : R2} (h1 : ∀ i j H Q, Q (.bl (p i j)) H → r (.int i) (.int j) H Q) (h2 : ∀ x y H Q, Q (.bl (q x.cps.toList y.cps.toList)) H → r' (.str x) (.str y) H Q) :
    OpF z (gCmp p q) (fun x y H Q => r x y H Q ∨ r' x y H Q) := by
  intro W σ L s H x y v u Q rs rx ry h
  unfold gCmp at h
  split at h
  · cases rx; cases ry; exact .inl (h1 _ _ _ _ (h.done rs rfl))
  · cases rx; cases ry; exact .inr (h2 _ _ _ _ (h.done rs rfl))
  · exact h.elim
abbrev gLt := gCmp (fun i j => decide (i < j)) (fun x y => decide (x < y))
abbrev gLe := gCmp (fun i j => decide (i ≤ j)) (fun x y => !decide (y < x))
abbrev gGt := gCmp (fun i j => decide (j < i)) (fun x y => decide (y < x))
abbrev gGe := gCmp (fun i j => decide (j ≤ i)) (fun x y => !decide (x < y))
section
variable {X : Cx}
theorem o_lt : ∃ r, OpR X (compareOp .Lt) r ∧ OpF X.z gLt r := ⟨_, op_lt.or op_lt_str, f_cmp (fun _ _ _ _ q => ⟨_, _, rfl, rfl, q⟩) (fun _ _ _ _ q => ⟨_, _, rfl, rfl, q⟩)⟩
theorem o_le : ∃ r, OpR X (compareOp .LtE) r ∧ OpF X.z gLe r := ⟨_, op_le.or op_le_str, f_cmp (fun _ _ _ _ q => ⟨_, _, rfl, rfl, q⟩) (fun _ _ _ _ q => ⟨_, _, rfl, rfl, q⟩)⟩
theorem o_gt : ∃ r, OpR X (compareOp .Gt) r ∧ OpF X.z gGt r := ⟨_, op_gt.or op_gt_str, f_cmp (fun _ _ _ _ q => ⟨_, _, rfl, rfl, q⟩) (fun _ _ _ _ q => ⟨_, _, rfl, rfl, q⟩)⟩
theorem o_ge : ∃ r, OpR X (compareOp .GtE) r ∧ OpF X.z gGe r := ⟨_, op_ge.or op_ge_str, f_cmp (fun _ _ _ _ q => ⟨_, _, rfl, rfl, q⟩) (fun _ _ _ _ q => ⟨_, _, rfl, rfl, q⟩)⟩
theorem o_eq (hu : X.A.units + 64 < cLine) : ∃ r, OpR X (compareOp .Eq) r ∧ OpF X.z gEq r := ⟨_, op_eqD hu, f_eq⟩
theorem o_ne (hu : X.A.units + 64 < cLine) : ∃ r, OpR X (compareOp .NotEq) r ∧ OpF X.z gNe r := ⟨_, op_neD hu, f_ne⟩
theorem o_is : ∃ r, OpR X (compareOp .Is) r ∧ OpF X.z gIs r := ⟨_, op_isN.or op_is_bl, f_is⟩
theorem o_isNot : ∃ r, OpR X (compareOp .IsNot) r ∧ OpF X.z gIsNot r := ⟨_, op_notN.or op_isnot_bl, f_isNot⟩
theorem o_add : ∃ r, OpR X (binaryOp .Add) r ∧ OpF X.z gAdd r := ⟨_, op_add.or (op_add_str.or (op_catA.or op_cat)), f_add⟩
theorem o_sub : ∃ r, OpR X (binaryOp .Sub) r ∧ OpF X.z gSub r := ⟨_, op_sub, f_sub⟩
theorem o_mul : ∃ r, OpR X (binaryOp .Mult) r ∧ OpF X.z gMul r := ⟨_, op_mul, f_mul⟩
theorem o_fdv : ∃ r, OpR X (binaryOp .FloorDiv) r ∧ OpF X.z gFdv r := ⟨_, op_fdivW, f_fdv⟩
theorem o_mod : ∃ r, OpR X (binaryOp .Mod) r ∧ OpF X.z gMod r := ⟨_, op_mod, f_mod⟩
theorem o_shl : ∃ r, OpR X (binaryOp .LShift) r ∧ OpF X.z gShl r := ⟨_, op_shl, f_shl⟩
theorem o_shr : ∃ r, OpR X (binaryOp .RShift) r ∧ OpF X.z gShr r := ⟨_, op_shr, f_shr⟩
theorem o_pow : ∃ r, OpR X (binaryOp .Pow) r ∧ OpF X.z gPow r := ⟨_, op_pow, f_pow⟩
theorem o_and : ∃ r, OpR X (binaryOp .BitAnd) r ∧ OpF X.z gAnd r := ⟨_, op_and, f_and⟩
theorem o_xor : ∃ r, OpR X (binaryOp .BitXor) r ∧ OpF X.z gXor r := ⟨_, op_xor, f_xor⟩
theorem o_or : ∃ r, OpR X (binaryOp .BitOr) r ∧ OpF X.z gOr r := ⟨_, op_or, f_or⟩
end
section
variable {X : Cx} {W : WX} {a b c : Expr} {ma mb mc : M D} {pos : Pos}
theorem b_op {op : Operator} {g : D → D → S → R D} (o : ∃ r, OpR X (binaryOp op) r ∧ OpF X.z g r) (ha : PE X a (tE X W ma)) (hb : PE X b (tE X W mb)) : PE X (.BinOp a op b pos) (tE X W (mBin g ma mb)) := let ⟨_, h1, h2⟩ := o; e_bin h1 h2 ha hb
theorem c_op {op : CmpOp} {g : D → D → S → R D} (o : ∃ r, OpR X (compareOp op) r ∧ OpF X.z g r) (ha : PE X a (tE X W ma)) (hb : PE X b (tE X W mb)) (hm : behindInMarks op b = false) : PE X (.Compare a [op] [b] pos) (tE X W (mBin g ma mb)) := let ⟨_, h1, h2⟩ := o; e_cmp h1 h2 ha hb hm
theorem t_op {op : CmpOp} {g : D → D → S → R D} (o : ∃ r, OpR X (compareOp op) r ∧ OpF X.z g r) (ha : PE X a (tE X W ma)) (hb : PE X b (tE X W mb)) (hm : behindInMarks op b = false) : PT X (.Compare a [op] [b] pos) (tT X W (mB (mBin g ma mb))) := let ⟨_, h1, h2⟩ := o; t_cmp h1 h2 ha hb hm
theorem c_chain {op op' : CmpOp} {g g' : D → D → S → R D} (o : ∃ r, OpR X (compareOp op) r ∧ OpF X.z g r) (o' : ∃ r, OpR X (compareOp op') r ∧ OpF X.z g' r) (ha : PE X a (tE X W ma)) (hb : PE X b (tE X W mb)) (hc : PE X c (tE X W mc))
    (hm : lastMarks [op, op'] [b, c] = false := by with_unfolding_all rfl) : PE X (.Compare a [op, op'] [b, c] pos) (tE X W (mChain g g' ma mb mc)) := let ⟨_, h1, h2⟩ := o; let ⟨_, h3, h4⟩ := o'; e_chain h1 h3 h2 h4 ha hb hc hm
theorem tc_chain {op op' : CmpOp} {g g' : D → D → S → R D} (o : ∃ r, OpR X (compareOp op) r ∧ OpF X.z g r) (o' : ∃ r, OpR X (compareOp op') r ∧ OpF X.z g' r) (ha : PE X a (tE X W ma)) (hb : PE X b (tE X W mb)) (hc : PE X c (tE X W mc))
    (hm : lastMarks [op, op'] [b, c] = false := by with_unfolding_all rfl) : PT X (.Compare a [op, op'] [b, c] pos) (tT X W (mB (mChain g g' ma mb mc))) := let ⟨_, h1, h2⟩ := o; let ⟨_, h3, h4⟩ := o'; t_chain h1 h3 h2 h4 ha hb hc hm
end

/-! ### slices -/
def mNoPart : M (Option Int) := fun _ s => .ok none s
def mPart (m : M D) : M (Option Int) := fun ρ s => (m ρ s).bind fun d s1 => match d with
  | .int i => .ok (some i) s1
  | _ => .bad
def cutD (xs : List D) (lo hi : Option Int) : List D := (xs.drop (HT.sIx xs.length 0 lo)).take (HT.sIx xs.length xs.length hi - HT.sIx xs.length 0 lo)
def gSl (x : D) (lo hi : Option Int) (s : S) : R D := match x with
  | .tup ds => .ok (.tup (cutD ds lo hi)) s
  | .str z => if z.length ≤ lim then .ok (.str (cutS z lo hi)) s else .bad
  | .ref n => match lstAt s n with
    | some ds => .ok (.ref s.length) (s ++ [.lst (cutD ds lo hi)])
    | none => .bad
  | .kl _ ns => .ok (.ref s.length) (s ++ [.lst (cutD (ns.map D.int) lo hi)])
  | _ => .bad
def mSl (m : M D) (ml mh : M (Option Int)) : M D := fun ρ s => (m ρ s).bind fun x s1 => (ml ρ s1).bind fun lo s2 => (mh ρ s2).bind fun hi s3 => gSl x lo hi s3
section
variable {X : Cx} {W : WX} {a : Expr} {m : M D} {ml mh : M (Option Int)} {pos p2 : Pos} {lo hi : Option Expr}
theorem p_none : PO X none (tO X W mNoPart) := po_none.imp fun σ H Q ⟨ρ, L, s, h1, h2, h3⟩ => h3.done h2 rfl
theorem p_some {e : Expr} (h : PE X e (tE X W m)) : PO X (some e) (tO X W (mPart m)) := (po_some h).imp fun σ H Q ⟨ρ, L, s, h1, h2, h3⟩ => ⟨ρ, L, s, h1, h2, (Post.bind (rep := RepV X.K) h3).mono fun v H1 ⟨d, L1, s1, e1, rs1, rv1, p1⟩ => by
  cases d with
  | int i => cases rv1; exact ⟨i, rfl, p1.done rs1 rfl⟩
  | _ => exact p1.elim⟩
theorem cut_V {z : Cz} {L : List Addr} {H : Hp} {ds : List D} {vs : List V} (h : RepVs z.K L H ds vs) (lo hi : Option Int) : RepVs z.K L H (cutD ds lo hi) (cutV vs lo hi) := by
  unfold cutD cutV
  rw [h.len]
  exact (h.drop _).take _
theorem ints_V {K : PySem.W.Frag} {L : List Addr} {H : Hp} : ∀ ns : List Int, RepVs K L H (ns.map D.int) (ns.map V.int)
  | [] => RepVs.nil
  | n :: ns => ⟨_, _, rfl, rfl, ints_V ns⟩
theorem e_sl (he : PE X a (tE X W m)) (hl : PO X lo (tO X W ml)) (hh : PO X hi (tO X W mh)) : PE X (.Subscript a (.Slice lo hi none p2) pos) (tE X W (mSl m ml mh)) :=
  (pe_slice (sl_list.or (sl_tupA.or sl_str)) he hl hh).imp fun σ H Q ⟨ρ, L, s, h1, h2, h3⟩ => ⟨ρ, L, s, h1, h2, (Post.bind (rep := RepV X.K) h3).mono fun v H1 ⟨d, L1, s1, e1, rs1, rv1, p1⟩ =>
    ⟨ρ, L1, s1, h1.ext h2 e1, rs1, (Post.bind (rep := RI) p1).mono fun o2 H2 ⟨l, L2, s2, e2, rs2, rv2, p2⟩ => ⟨ρ, L2, s2, (h1.ext h2 e1).ext rs1 e2, rs2, (Post.bind (rep := RI) p2).mono fun o3 H3 ⟨h, L3, s3, e3, rs3, rv3, p3⟩ => by
      have rv2 : o2 = l := rv2
      have rv3 : o3 = h := rv3
      subst rv2 rv3
      have rv := (rv1.ext rs1 e2).ext rs2 e3
      cases d with
      | tup ds =>
        obtain ⟨a, vs, rfl, ht, hv⟩ := rv
        have c := cut_V (z := X.z) hv o2 o3
        refine .inr (.inl ⟨a, vs, rfl, ht, fun hw => ?_, fun hw p hp => ?_⟩)
        · refine p3.done rs3 ⟨a, vs, rfl, ht, ?_⟩
          have e : cutV vs o2 o3 = vs := by unfold cutV; rw [hw.1, hw.2]; simp
          rw [e] at c
          exact c
        · exact p3 _ L3 _ (Ext.other hp) (rs3.other hp) ⟨p, _, rfl, SqT.of upd_same, c.ext (z := X.z) rs3 (Ext.other hp)⟩
      | str y =>
        cases rv
        have p3' : Post X.z (RepV X.K) W σ L3 H3 (if y.length ≤ lim then .ok (.str (cutS y o2 o3)) s3 else .bad) Q := p3
        split at p3'
        · rename_i hl; exact .inr (.inr ⟨y, rfl, lim_line hl, p3'.done rs3 rfl⟩)
        · exact p3'.elim
      | ref n =>
        obtain ⟨a, ha, rfl⟩ := rv
        have p3' : Post X.z (RepV X.K) W σ L3 H3 (match lstAt s3 n with | some ds => .ok (.ref s3.length) (s3 ++ [.lst (cutD ds o2 o3)]) | none => .bad) Q := p3
        split at p3'
        · rename_i ds e
          obtain ⟨vs, hq, hv⟩ := lst_V rs3 ha e
          have c := cut_V (z := X.z) hv o2 o3
          refine .inl ⟨a, vs, rfl, hq, fun p hp => ?_⟩
          refine p3' _ (L3 ++ [p]) _ (Ext.new rs3 hp) (rs3.new hp ⟨_, upd_same, c.ext (z := X.z) rs3 (Ext.new rs3 hp)⟩) ⟨p, ?_, rfl⟩
          rw [← rs3.len]; simp
        · exact p3'.elim
      | kl a ns =>
        obtain ⟨rfl, hk⟩ := rv
        have c := cut_V (z := X.z) (L := L3) (H := H3) (ints_V ns) o2 o3
        refine .inl ⟨a, _, rfl, hk.sq, fun p hp => ?_⟩
        refine p3 _ (L3 ++ [p]) _ (Ext.new rs3 hp) (rs3.new hp ⟨_, upd_same, c.ext (z := X.z) rs3 (Ext.new rs3 hp)⟩) ⟨p, ?_, rfl⟩
        rw [← rs3.len]; simp
      | _ => exact p3.elim⟩⟩⟩
end
end Z

set_option Elab.async false
set_option linter.all false
set_option maxRecDepth 100000
set_option maxHeartbeats 4000000
/-! ZDict: dicts, subscripts of anything, stores at a place, in. -/
namespace Z
open PySem L2

/-! ### tables -/
def kget (kvs : List (D × D)) (k : D) : Option D := (kvs.find? fun p => decide (p.1 = k)).map (·.2)
def kput (kvs : List (D × D)) (k v : D) : List (D × D) := if (kvs.any fun p => decide (p.1 = k)) = true then kvs.map (fun p => if p.1 = k then (p.1, v) else p) else kvs ++ [(k, v)]
mutual
/-- a datum as a nested key -/
def D.nk : D → Option NestedKey
  | .non => some .none
  | .int i => some (.num i)
  | .str x => some (.text x)
  | .tup ds => (D.nks ds).map .tup
  | _ => none
def D.nks : List D → Option (List NestedKey)
  | [] => some []
  | d :: ds => match D.nk d, D.nks ds with
    | some k, some ks => some (k :: ks)
    | _, _ => none
end
mutual
theorem nk_D : ∀ {d : D} {k : NestedKey}, d.nk = some k → nkD k = d
  | .non, _, h => by cases h; rfl
  | .int i, _, h => by cases h; rfl
  | .str x, _, h => by cases h; rfl
  | .tup ds, _, h => by
    obtain ⟨ks, e, rfl⟩ := Option.map_eq_some_iff.mp (show (D.nks ds).map NestedKey.tup = some _ from h)
    show D.tup (nksD ks) = _
    rw [nks_D e]
  | .bl _, _, h => by cases h
  | .ref _, _, h => by cases h
  | .ty _, _, h => by cases h
  | .kl _ _, _, h => by cases h
theorem nks_D : ∀ {ds : List D} {ks : List NestedKey}, D.nks ds = some ks → nksD ks = ds
  | [], _, h => by cases h; rfl
  | d :: ds, _, h => by
    unfold D.nks at h
    split at h
    · rename_i k ks e1 e2
      cases h
      show nkD k :: nksD ks = _
      rw [nk_D e1, nks_D e2]
    · cases h
end
mutual
theorem nk_of : ∀ k : NestedKey, (nkD k).nk = some k
  | .none => rfl
  | .num i => rfl
  | .text x => rfl
  | .tup ks => by show (D.nks (nksD ks)).map NestedKey.tup = _; rw [nks_of ks]; rfl
theorem nks_of : ∀ ks : List NestedKey, D.nks (nksD ks) = some ks
  | [] => rfl
  | k :: ks => by show (match D.nk (nkD k), D.nks (nksD ks) with | some k, some ks => some (k :: ks) | _, _ => none) = _; rw [nk_of k, nks_of ks]
end
theorem nkD_inj {j k : NestedKey} (h : nkD j = nkD k) : j = k := by
  have := nk_of j
  rw [h, nk_of k] at this
  exact (Option.some.inj this).symm
theorem keyD_inj {j k : Key} (h : keyD j = keyD k) : j = k := by
  cases j <;> cases k <;> simp [keyD] at h <;> rw [h]
def D.leaf : D → Option Key
  | .int i => some (.inl i)
  | .str x => some (.inr x)
  | _ => none
theorem leaf_D {d : D} {k : Key} (h : d.leaf = some k) : keyD k = d := by
  cases d <;> simp [D.leaf] at h <;> subst h <;> rfl
/-- what may be a key: of the kind t -/
def keyOk (t : Bool) (d : D) : Bool := match t with
  | false => d.leaf.isSome
  | true => (match d with | .tup _ => true | _ => false) && (match d.nk with | some k => decide (k.depth ≤ 8) | none => false)

section
variable {z : Cz} {L : List Addr} {H : Hp}
/-- tables of the same keys -/
theorem get_rel {α κ : Type} [DecidableEq κ] (f : κ → D) (hf : ∀ a b, f a = f b → a = b) (ky : α → κ) (vl : α → V) : ∀ (kvs : List (D × D)) (es : List α), kvs.map (·.1) = es.map (fun e => f (ky e)) → RepVs z.K L H (kvs.map (·.2)) (es.map vl) → ∀ k,
    match kget kvs (f k), (es.find? fun e => decide (ky e = k)).map vl with
    | some d, some v => RepV z.K L H d v
    | none, none => True
    | _, _ => False
  | [], [], _, _, k => trivial
  | [], _ :: _, e, _, _ => by simp at e
  | _ :: _, [], e, _, _ => by simp at e
  | p :: kvs, e :: es, he, hv, k => by
    simp only [List.map_cons, List.cons.injEq] at he
    obtain ⟨v, r, e1, h1, h2⟩ := hv
    simp only [List.map_cons, List.cons.injEq] at e1
    obtain ⟨rfl, rfl⟩ := e1
    have ih := get_rel f hf ky vl kvs es he.2 h2 k
    unfold kget at ih ⊢
    by_cases q : ky e = k
    · have q' : p.1 = f k := by rw [he.1, q]
      rw [List.find?_cons, List.find?_cons, decide_eq_true q', decide_eq_true q]
      exact h1
    · have q' : ¬ p.1 = f k := fun z => q (hf _ _ (by rw [← he.1, z]))
      rw [List.find?_cons, List.find?_cons, decide_eq_false q', decide_eq_false q]
      exact ih
theorem any_rel {α κ : Type} [DecidableEq κ] (f : κ → D) (hf : ∀ a b, f a = f b → a = b) (ky : α → κ) : ∀ (kvs : List (D × D)) (es : List α), kvs.map (·.1) = es.map (fun e => f (ky e)) → ∀ k, (kvs.any fun p => decide (p.1 = f k)) = es.any fun e => decide (ky e = k)
  | [], [], _, k => rfl
  | [], _ :: _, e, _ => by simp at e
  | _ :: _, [], e, _ => by simp at e
  | p :: kvs, e :: es, he, k => by
    simp only [List.map_cons, List.cons.injEq] at he
    rw [List.any_cons, List.any_cons, any_rel f hf ky kvs es he.2 k]
    congr 1
    rw [he.1]
    exact decide_eq_decide.mpr ⟨fun q => hf _ _ q, fun q => by rw [q]⟩
theorem repl_keys (kvs : List (D × D)) (k v : D) : (kvs.map fun p => if p.1 = k then (p.1, v) else p).map (·.1) = kvs.map (·.1) := by
  rw [List.map_map]
  refine List.map_congr_left fun p _ => ?_
  show (if p.1 = k then (p.1, v) else p).1 = p.1
  split <;> rfl
end

section
variable {X : Cx} {pins : List (Addr × Obj)} {σ : St} {H : Hp} {s : Shared} {L : List Addr}
mutual
/-- a key's datum is the key in the model -/
theorem nested_of (I : Inv X pins σ H s) : ∀ (k : NestedKey) (v : V) (u : Value), RepV X.K L H (nkD k) v → RelV v u → NestedIs s.heap k u
  | .none, _, _, h, r => by cases h; cases r; exact .none
  | .num i, _, _, h, r => by cases h; obtain ⟨t, rfl⟩ := r; exact .int i t
  | .text x, _, _, h, r => by cases h; obtain ⟨t, rfl⟩ := r; exact .text x t
  | .tup ks, _, _, h, r => by
    obtain ⟨a, vs, rfl, h1, h2⟩ := h
    cases r
    obtain ⟨its, rv, ⟨o, e1, e2, n, e3⟩, _⟩ := I.tuple h1
    exact .tup e1 e2 e3 (by simpa using nesteds_of I ks vs its h2 rv)
theorem nesteds_of (I : Inv X pins σ H s) : ∀ (ks : List NestedKey) (vs : List V) (us : List Value), RepVs X.K L H (nksD ks) vs → Vals vs us → NestedAll s.heap ks us
  | [], _, _, h, r => by cases h; cases r; exact .nil
  | k :: ks, _, _, h, r => by
    obtain ⟨v, t, rfl, h1, h2⟩ := h
    cases r with
    | cons r1 r2 => exact .cons (nested_of I k v _ h1 r1) (nesteds_of I ks t _ h2 r2)
end
/-- a dict with tuples as keys, in the model -/
theorem dN_at {a : Addr} {es : List (NestedKey × Addr × V)} (I : Inv X pins σ H s) (e : Rd H a (dN X.prog X.w a es)) (hk : ∀ e ∈ es, RepV X.K L H (nkD e.1) (.ref e.2.1)) (hd : ∀ e ∈ es, e.1.depth ≤ 8) :
    es.length ≤ sizeLine ∧ (a == sysModules) = false ∧ ∃ xs : List (NestedKey × Addr × Value), Paired (fun (p : NestedKey × Addr × V) (q : NestedKey × Addr × Value) => p.1 = q.1 ∧ p.2.1 = q.2.1 ∧ RelV p.2.2 q.2.2) es xs ∧
      s.heap.DictOfH (nestedKind X.prog X.w) a xs := by
  obtain ⟨⟨h1, h2, xs, h3, o, es', ep, h4, h5, h6, h7, h8⟩, _⟩ := (show ObjOk X.prog X.w H s.heap a (dN X.prog X.w a es) from e.ok I.hok)
  refine ⟨h1, h2, xs, h3, o, es', ep, h4, h5, h6, h7, ?_, h8⟩
  have all : ∀ {l : List (NestedKey × Addr × V)} {m : List (NestedKey × Addr × Value)}, Paired (fun (p : NestedKey × Addr × V) (q : NestedKey × Addr × Value) => p.1 = q.1 ∧ p.2.1 = q.2.1 ∧ RelV p.2.2 q.2.2) l m →
      (∀ e ∈ l, RepV X.K L H (nkD e.1) (.ref e.2.1)) → (∀ e ∈ l, e.1.depth ≤ 8) → ∀ x ∈ m, (nestedKind X.prog X.w).is s.heap x.1 x.2.1 := by
    intro l m q
    induction q with
    | nil => intro _ _ x hx; cases hx
    | @cons p q ps qs hq t ih =>
      intro k1 k2 x hx
      rcases List.mem_cons.mp hx with rfl | hx
      · rw [← hq.1, ← hq.2.1]
        exact ⟨nested_of I _ _ _ (k1 p List.mem_cons_self) rfl, k2 p List.mem_cons_self⟩
      · exact ih (fun e he => k1 e (List.mem_cons_of_mem _ he)) (fun e he => k2 e (List.mem_cons_of_mem _ he)) x hx
  exact all h3 hk hd
theorem reps_each {K : PySem.W.Frag} : ∀ {ds : List D} {es : List (NestedKey × Addr × V)}, ds = es.map (fun e => nkD e.1) → RepVs K L H ds (es.map fun e => V.ref e.2.1) → ∀ e ∈ es, RepV K L H (nkD e.1) (.ref e.2.1)
  | [], [], _, _, _, he => nomatch he
  | [], _ :: _, h, _, _, _ => by simp at h
  | _ :: _, [], h, _, _, _ => by simp at h
  | d :: ds, x :: es, h, r, e, he => by
    simp only [List.map_cons, List.cons.injEq] at h
    obtain ⟨v, t, e1, h1, h2⟩ := r
    simp only [List.map_cons, List.cons.injEq] at e1
    obtain ⟨rfl, rfl⟩ := e1
    rcases List.mem_cons.mp he with rfl | he
    · rw [← h.1]; exact h1
    · exact reps_each h.2 h2 e he
theorem paired_find {k : NestedKey} {es : List (NestedKey × Addr × V)} {xs : List (NestedKey × Addr × Value)} (h : Paired (fun (p : NestedKey × Addr × V) (q : NestedKey × Addr × Value) => p.1 = q.1 ∧ p.2.1 = q.2.1 ∧ RelV p.2.2 q.2.2) es xs) :
    RelO ((es.find? fun e => decide (e.1 = k)).map (·.2.2)) ((atKey xs k).map (·.2)) := by
  induction h with
  | nil => trivial
  | @cons p q ps qs h t ih =>
    unfold atKey at ih ⊢
    by_cases e : p.1 = k
    · have e' : q.1 = k := h.1.symm.trans e
      rw [List.find?_cons, List.find?_cons, decide_eq_true e, decide_eq_true e']
      exact h.2.2
    · have e' : ¬ q.1 = k := fun z => e (h.1.trans z)
      rw [List.find?_cons, List.find?_cons, decide_eq_false e, decide_eq_false e']
      exact ih
end

/-! ### what a dict holds -/
def dctAt (s : S) (n : Nat) : Option (Bool × List (D × D)) := match s[n]? with
  | some (.dct t _ kvs) => some (t, kvs)
  | _ => none
def gIn (neg : Bool) (x c : D) (s : S) : R D := match c with
  | .str z => match x with
    | .str y => .ok (.bl (neg ^^ !(Builtin.Str.occurrences z y 0 z.length 1).isEmpty)) s
    | _ => .bad
  | .tup ds => if SeqAt.shaped x.py && SeqAt.shaped (.tuple (D.pys ds)) then .ok (.bl (neg ^^ (D.pys ds).any fun z => PyData.eqv z x.py)) s else .bad
  | .ref n => match s[n]? with
    | some (.dct t _ kvs) => if keyOk t x then .ok (.bl (neg ^^ (kget kvs x).isSome)) s else .bad
    | some o => match o.items with
      | some ds => if SeqAt.shaped x.py && SeqAt.shaped (.list (D.pys ds)) then .ok (.bl (neg ^^ (D.pys ds).any fun z => PyData.eqv z x.py)) s else .bad
      | none => .bad
    | none => .bad
  | _ => .bad
/-- a reading that is the function itself -/
def rZ (z : Cz) (g : D → D → S → R D) : R2 := fun v u H Q => ∃ L s x y, RepS z L s H ∧ RepV z.K L H x v ∧ RepV z.K L H y u ∧ Post z (RepV z.K) (fun _ _ _ _ => True) [] L H (g x y s) Q
theorem f_Z {z : Cz} {g : D → D → S → R D} : OpF z g (rZ z g) := fun W σ L s H x y v u Q rs rx ry h => by
  refine ⟨L, s, x, y, rs, rx, ry, ?_⟩
  cases e : g x y s with
  | ok a s' => rw [e] at h; exact h
  | exc c s' => exact fun _ _ _ _ _ _ => trivial
  | bad => rw [e] at h; exact h
section
variable {z : Cz} {L : List Addr} {H : Hp} {a : Addr} {t lk : Bool} {kvs : List (D × D)}
theorem lk_rd {u o : HO} (h : H a = some u) (l : Lk lk u o) : Rd H a o := by
  cases lk with
  | false => cases l; exact .inl h
  | true => obtain ⟨b, rfl⟩ := l; exact .inr ⟨b, h⟩
end
section
variable {X : Cx} {pins : List (Addr × Obj)} {σ : St} {H : Hp} {sh : Shared} {L : List Addr} {a : Addr} {t lk : Bool} {kvs : List (D × D)} {st : S}
/-- what the model finds in a dict -/
theorem find_leaf {es : List (Key × V)} {k : Key} (e1 : kvs.map (·.1) = es.map (fun e => keyD e.1)) (e2 : RepVs X.K L H (kvs.map (·.2)) (es.map (·.2))) :
    match kget kvs (keyD k), valV es k with
    | some d, some v => RepV X.K L H d v
    | none, none => True
    | _, _ => False := get_rel (z := X.z) keyD (fun _ _ h => keyD_inj h) (·.1) (·.2) kvs es e1 e2 k
theorem find_nest {es : List (NestedKey × Addr × V)} {k : NestedKey} (e1 : kvs.map (·.1) = es.map (fun e => nkD e.1)) (e2 : RepVs X.K L H (kvs.map (·.2)) (es.map (·.2.2))) :
    match kget kvs (nkD k), (es.find? fun e => decide (e.1 = k)).map (·.2.2) with
    | some d, some v => RepV X.K L H d v
    | none, none => True
    | _, _ => False := get_rel (z := X.z) nkD (fun _ _ h => nkD_inj h) (·.1) (·.2.2) kvs es e1 e2 k
theorem nest_key {d : D} {k : NestedKey} {y : V} {ds : List D} (e : d = .tup ds) (hk : d.nk = some k) (ry : RepV X.K L H d y) : ∃ b, y = .ref b ∧ RepV X.K L H (nkD k) (.ref b) := by
  rw [nk_D hk]
  subst e
  obtain ⟨b, vs, rfl, h⟩ := id ry
  exact ⟨b, rfl, ry⟩
theorem kget_some_of {k : NestedKey} {o : Option V} (h : match kget kvs (nkD k), o with
    | some d, some v => RepV X.K L H d v
    | none, none => True
    | _, _ => False) : (kget kvs (nkD k)).isSome = o.isSome := by
  cases q : kget kvs (nkD k) <;> cases o <;> simp_all
theorem room8 {A : Around} (hu : A.units + 64 < cLine) {P : Program} {w : World} : (nestedKind P w).room A.in1 := by
  show A.in1.units + 8 < cLine
  have : A.in1.units = A.units + 1 := rfl
  omega
theorem op_gIn (hu : X.A.units + 65 < cLine) (neg : Bool) (op : CmpOp) (ho : op = if neg then .NotIn else .In) : OpR X (compareOp op) (rZ X.z (gIn neg)) := by
  intro pins s σ H x y v u Q I rx ry h
  obtain ⟨L, st, dx, dy, rs, rvx, rvy, p⟩ := h
  cases dy with
  | str z =>
    cases rvy
    cases dx with
    | str w =>
      cases rvx
      have q := p.done rs rfl
      cases neg with
      | false => subst ho; exact op_in_str pins s σ H _ _ v u Q I rx ry ⟨w, z, rfl, rfl, by simpa using q⟩
      | true => subst ho; exact op_notin_str pins s σ H _ _ v u Q I rx ry ⟨w, z, rfl, rfl, by simpa using q⟩
    | _ => exact p.elim
  | tup ds =>
    have p' : Post X.z (RepV X.K) (fun _ _ _ _ => True) [] L H (if SeqAt.shaped dx.py && SeqAt.shaped (.tuple (D.pys ds)) then .ok (.bl (neg ^^ (D.pys ds).any fun z => PyData.eqv z dx.py)) st else .bad) Q := p
    split at p'
    · rename_i c
      rw [Bool.and_eq_true] at c
      have q := p'.done rs rfl
      obtain ⟨as, r1⟩ := Dp.reads I _ x v (dp_of (z := X.z) dx x rvx (SeqAt.canLay_of_shaped c.1)) rx
      obtain ⟨bs, r2⟩ := Dp.reads I _ y u (dp_of (z := X.z) (.tup ds) y rvy (SeqAt.canLay_of_shaped c.2)) ry
      cases neg with
      | false => subst ho; exact SeqAt.in_tuple_reads r2 r1 (SeqAt.canLay_of_shaped c.2) (SeqAt.canLay_of_shaped c.1) (PyProof.Rows.room_in_shaped c.1 hu) ⟨.bl _, H, I, rfl, by simpa using q⟩
      | true => subst ho; exact SeqAt.notIn_tuple_reads r2 r1 (SeqAt.canLay_of_shaped c.2) (SeqAt.canLay_of_shaped c.1) (PyProof.Rows.room_in_shaped c.1 hu) ⟨.bl _, H, I, rfl, by simpa using q⟩
    · exact p'.elim
  | ref n =>
    obtain ⟨a, ha, rfl⟩ := rvy
    obtain rfl : u = Value.ref a := ry
    have p' : Post X.z (RepV X.K) (fun _ _ _ _ => True) [] L H (match st[n]? with
      | some (.dct t _ kvs) => if keyOk t dx then .ok (.bl (neg ^^ (kget kvs dx).isSome)) st else .bad
      | some o => match o.items with
        | some ds => if SeqAt.shaped dx.py && SeqAt.shaped (.list (D.pys ds)) then .ok (.bl (neg ^^ (D.pys ds).any fun z => PyData.eqv z dx.py)) st else .bad
        | none => .bad
      | none => .bad) Q := p
    split at p'
    · rename_i t lk kvs e
      obtain ⟨uo, o, h1, h2, h3⟩ := rs.at_ _ _ _ ha e
      have hrd := lk_rd h1 h2
      split at p'
      · rename_i hk
        have q := p'.done rs rfl
        cases t with
        | false =>
          obtain ⟨es, rfl, e1, e2⟩ := h3
          obtain ⟨k, ek⟩ := Option.isSome_iff_exists.mp hk
          have er := leaf_D ek
          subst er
          have f := find_leaf (X := X) (k := k) e1 e2
          have hx : x = kV k := by cases k <;> cases rvx <;> rfl
          have g : DGet H a x (valV es k) := .inl ⟨es, k, hrd, hx, rfl⟩
          have es' : (kget kvs (keyD k)).isSome = (valV es k).isSome := by
            cases q1 : kget kvs (keyD k) <;> cases q2 : valV es k <;> simp_all
          cases neg with
          | false => subst ho; exact d_in (by omega) I g rx fun s' I' => ⟨.bl _, H, I', rfl, by rw [← es']; simpa using q⟩
          | true => subst ho; exact d_notIn (by omega) I g rx fun s' I' => ⟨.bl _, H, I', rfl, by rw [← es']; simpa using q⟩
        | true =>
          obtain ⟨es, rfl, e1, e2, e3, e4⟩ := h3
          unfold keyOk at hk
          simp only [Bool.and_eq_true] at hk
          obtain ⟨hk1, hk2⟩ := hk
          split at hk1
          · rename_i ds'
            split at hk2
            · rename_i k ek
              obtain ⟨b, rfl, rb⟩ := nest_key (X := X) rfl ek rvx
              obtain rfl : v = Value.ref b := rx
              have f := find_nest (X := X) (k := k) e1 e4
              have hs := kget_some_of (X := X) f
              rw [nk_D ek] at hs
              obtain ⟨h5, h6, xs, h7, h8⟩ := dN_at (L := L) I hrd (reps_each e1 e2) e3
              have hr := paired_find (k := k) h7
              have hs2 : ((es.find? fun e => decide (e.1 = k)).map (·.2.2)).isSome = (atKey xs k).isSome := by
                have := hr.isSome_eq
                rw [this, Option.isSome_map]
              have hkey : (nestedKind X.prog X.w).is s.heap k b := ⟨nested_of I k _ _ rb rfl, of_decide_eq_true hk2⟩
              cases neg with
              | false => subst ho; exact wpAny_in_heap (room8 (by omega)) hkey h6 h8 ⟨.bl _, H, I.tok _, rfl, by rw [← hs2, ← hs]; simpa using q⟩
              | true => subst ho; exact PyProof.Rows.wpAny_notIn_heap (room8 (by omega)) hkey h6 h8 ⟨.bl _, H, I.tok _, rfl, by rw [← hs2, ← hs]; simpa using q⟩
            · cases hk2
          · cases hk1
      · exact p'.elim
    · rename_i o _ e
      split at p'
      · rename_i ds ei
        have el : lstAt st n = some ds := by unfold lstAt; rw [e]; exact ei
        split at p'
        · rename_i c
          rw [Bool.and_eq_true] at c
          have q := p'.done rs rfl
          have d1 := dp_of (z := X.z) dx x rvx (SeqAt.canLay_of_shaped c.1)
          obtain ⟨vs, hq, hv⟩ := lst_V rs ha el
          have d2 : Dp X.K H (.ref a) (.list (D.pys ds)) := .lst hq (dps_of (z := X.z) ds vs hv (SeqAt.canLay_of_shaped c.2))
          cases neg with
          | false => subst ho; exact op_inD hu pins s σ H x (.ref a) v (.ref a) Q I rx (show RelV (.ref a) (Value.ref a) from rfl) ⟨_, _, d1, d2, c.1, c.2, by simpa using q⟩
          | true => subst ho; exact op_notInD hu pins s σ H x (.ref a) v (.ref a) Q I rx (show RelV (.ref a) (Value.ref a) from rfl) ⟨_, _, d1, d2, c.1, c.2, by simpa using q⟩
        · exact p'.elim
      · exact p'.elim
    · exact p'.elim
  | _ => exact p.elim
theorem o_in (hu : X.A.units + 65 < cLine) : ∃ r, OpR X (compareOp .In) r ∧ OpF X.z (gIn false) r := ⟨_, op_gIn hu false .In rfl, f_Z⟩
theorem o_notIn (hu : X.A.units + 65 < cLine) : ∃ r, OpR X (compareOp .NotIn) r ∧ OpF X.z (gIn true) r := ⟨_, op_gIn hu true .NotIn rfl, f_Z⟩
end
end Z

set_option Elab.async false
set_option linter.all false
set_option maxRecDepth 100000
set_option maxHeartbeats 4000000
/-! ZStmt: statements, targets, loops as functions on a store; lists that are not of the store. -/
namespace Z
open PySem L2

/-! ### data through a smaller change -/
section
variable {K : PySem.W.Frag} {L L' : List Addr} {H H' : Hp}
mutual
theorem RepV.ext0 (hp : ∀ (n : Nat) a, L[n]? = some a → L'[n]? = some a) (ht : ∀ a vs, SqT K H a vs → SqT K H' a vs) (hk : ∀ a ns, KL K H a ns → KL K H' a ns) : ∀ {d : D} {v : V}, RepV K L H d v → RepV K L' H' d v
  | .non, _, h => h
  | .bl _, _, h => h
  | .int _, _, h => h
  | .str _, _, h => h
  | .ty _, _, h => h
  | .kl a ns, _, h => ⟨h.1, hk a ns h.2⟩
  | .ref n, _, h => by
    obtain ⟨a, h1, h2⟩ := h
    exact ⟨a, hp n a h1, h2⟩
  | .tup ds, _, h => by
    obtain ⟨a, vs, h1, h2, h3⟩ := h
    exact ⟨a, vs, h1, ht a vs h2, RepVs.ext0 hp ht hk h3⟩
theorem RepVs.ext0 (hp : ∀ (n : Nat) a, L[n]? = some a → L'[n]? = some a) (ht : ∀ a vs, SqT K H a vs → SqT K H' a vs) (hk : ∀ a ns, KL K H a ns → KL K H' a ns) : ∀ {ds : List D} {vs : List V}, RepVs K L H ds vs → RepVs K L' H' ds vs
  | [], _, h => h
  | d :: ds, _, h => by
    obtain ⟨v, t, h1, h2, h3⟩ := h
    exact ⟨v, t, h1, RepV.ext0 hp ht hk h2, RepVs.ext0 hp ht hk h3⟩
end
end
section
variable {z : Cz} {K : PySem.W.Frag} {L : List Addr} {H : Hp} {s : S} {a : Addr} {xs : List V} {u : HO}
/-- a list outside the store is written: tuples stand -/
theorem tup_keep (ha : H a = some (.lst xs)) (b : Addr) (vs : List V) (h : SqT K H b vs) : SqT K (upd H a u) b vs := by
  rcases h with h | h
  · rcases h with h | ⟨o, h⟩
    · exact .inl (.inl (by rw [upd_ne (ne_of h ha (by intro z; cases z))]; exact h))
    · exact .inl (.inr ⟨o, by rw [upd_ne (ne_of h ha (by intro z; cases z))]; exact h⟩)
  · exact .inr h
theorem kl_keep (ha : H a = some (.lst xs)) (b : Addr) (ns : List Int) (h : KL K H b ns) : KL K (upd H a u) b ns := by
  rcases h with ⟨o, h⟩ | h
  · exact .inl ⟨o, by rw [upd_ne (ne_of h ha (by intro z; cases z))]; exact h⟩
  · exact .inr h
theorem RepVs.beside {ds : List D} {vs : List V} (ha : H a = some (.lst xs)) (h : RepVs K L H ds vs) : RepVs K L (upd H a u) ds vs := h.ext0 (fun _ _ h => h) (tup_keep ha) (kl_keep ha)
theorem RepV.beside {d : D} {v : V} (ha : H a = some (.lst xs)) (h : RepV K L H d v) : RepV K L (upd H a u) d v := h.ext0 (fun _ _ h => h) (tup_keep ha) (kl_keep ha)
theorem RepE.beside {ρ : Ev} {σ : St} (ha : H a = some (.lst xs)) (h : RepE K L H ρ σ) : RepE K L (upd H a u) ρ σ :=
  ⟨h.1, fun i d q => let ⟨v, h1, h2⟩ := h.2 i d q; ⟨v, h1, h2.beside ha⟩⟩
theorem RepS.beside (rs : RepS z L s H) (hL : a ∉ L) (ha : H a = some (.lst xs)) : RepS z L s (upd H a u) := by
  refine ⟨rs.len, rs.nd, fun n b o h1 h2 => ?_⟩
  have hne : b ≠ a := fun e => hL (e ▸ List.mem_of_getElem? h1)
  have q := rs.at_ n b o h1 h2
  cases o with
  | lst ds => obtain ⟨vs, e1, r⟩ := q; exact ⟨vs, by rw [upd_ne hne]; exact e1, r.beside ha⟩
  | dct t lk kvs =>
    obtain ⟨w, o, e1, l, r⟩ := q
    refine ⟨w, o, by rw [upd_ne hne]; exact e1, l, ?_⟩
    cases t with
    | false => obtain ⟨es, e1, e2, e3⟩ := r; exact ⟨es, e1, e2, e3.beside ha⟩
    | true => obtain ⟨es, e1, e2, e3, e4, e5⟩ := r; exact ⟨es, e1, e2, e3.beside ha, e4, e5.beside ha⟩
end

/-! ### lists that are not of the store (yet); lists and tuples that are walked -/
/-- a new list, not of the store; H₀: the heap ahead -/
def RTmp (K : PySem.W.Frag) (H₀ : Hp) : Rep (List D) V := fun L H ds v => ∃ a vs, v = .ref a ∧ H a = some (.lst vs) ∧ H₀ a = none ∧ a ∉ L ∧ RepVs K L H ds vs
def RSeq (K : PySem.W.Frag) : Rep (List D) V := fun L H ds v => ∃ a vs, v = .ref a ∧ (SqL K H a vs ∨ SqT K H a vs) ∧ RepVs K L H ds vs
def tL (X : Cx) (W : WX) (m : M (List D)) : TE := fun σ H Q => tG X.z (RTmp X.K H) W m σ H Q
abbrev tQ (X : Cx) (W : WX) (m : M (List D)) : TE := tG X.z (RSeq X.K) W m
/-- a list becomes the store's -/
def mRef (m : M (List D)) : M D := fun ρ s => (m ρ s).bind fun xs s1 => .ok (.ref s1.length) (s1 ++ [.lst xs])
/-- the items of a list or tuple -/
def seqD (s : S) : D → Option (List D)
  | .tup ds => some ds
  | .ref n => lstAt s n
  | .kl _ ns => some (ns.map D.int)
  | _ => none
def mSeq (m : M D) : M (List D) := fun ρ s => (m ρ s).bind fun d s1 => R.of (seqD s1 d) s1
def mLim (m : M (List D)) : M (List D) := fun ρ s => (m ρ s).bind fun xs s1 => if xs.length ≤ lim then .ok xs s1 else .bad
section
variable {z : Cz} {W : WX} {L L' : List Addr} {s : S} {H H' : Hp} {ds : List D} {v : V}
theorem join_L (rs : RepS z L s H) (e : Ext L H L' H') {s' : S} (rs' : RepS z L' s' H') (r : RTmp z.K H L' H' ds v) :
    ∃ L2, Ext L H L2 H' ∧ RepS z L2 (s' ++ [.lst ds]) H' ∧ RepV z.K L2 H' (.ref s'.length) v := by
  obtain ⟨a, vs, rfl, h1, h2, h3, h4⟩ := r
  have mono : ∀ (n : Nat) b, L'[n]? = some b → (L' ++ [a])[n]? = some b := fun n b h => by
    rw [List.getElem?_append_left (List.getElem?_eq_some_iff.mp h).1]; exact h
  obtain ⟨M, e1, e2⟩ := e.pre
  have rv := h4.ext0 (L' := L' ++ [a]) (H' := H') mono (fun _ _ h => h) (fun _ _ h => h)
  refine ⟨L' ++ [a], ⟨⟨M ++ [a], by rw [e1]; simp, fun x hx => ?_⟩, e.keep⟩, ⟨by simp [rs'.len], ?_, fun n b o g1 g2 => ?_⟩, a, by rw [← rs'.len]; simp, rfl⟩
  · rcases List.mem_append.mp hx with hx | hx
    · exact e2 x hx
    · rw [List.mem_singleton.mp hx]; exact ⟨rs.notin h2, h2⟩
  · rw [List.nodup_append]
    refine ⟨rs'.nd, by simp, fun x hx y hy e => ?_⟩
    rw [List.mem_singleton.mp hy] at e
    exact h3 (e ▸ hx)
  · by_cases hn : n < L'.length
    · rw [List.getElem?_append_left hn] at g1
      rw [List.getElem?_append_left (by rw [← rs'.len]; exact hn)] at g2
      have q := rs'.at_ n b o g1 g2
      cases o with
      | lst ds => obtain ⟨vs, e1, r⟩ := q; exact ⟨vs, e1, r.ext0 mono (fun _ _ h => h) (fun _ _ h => h)⟩
      | dct t lk kvs =>
        obtain ⟨w, o, e1, l, r⟩ := q
        refine ⟨w, o, e1, l, ?_⟩
        cases t with
        | false => obtain ⟨es, e1, e2, e3⟩ := r; exact ⟨es, e1, e2, e3.ext0 mono (fun _ _ h => h) (fun _ _ h => h)⟩
        | true => obtain ⟨es, e1, e2, e3, e4, e5⟩ := r; exact ⟨es, e1, e2, e3.ext0 mono (fun _ _ h => h) (fun _ _ h => h), e4, e5.ext0 mono (fun _ _ h => h) (fun _ _ h => h)⟩
    · have hn' : n = L'.length := by
        have := (List.getElem?_eq_some_iff.mp g1).1
        simp at this
        omega
      subst hn'
      rw [List.getElem?_append_right (Nat.le_refl _)] at g1
      rw [rs'.len, List.getElem?_append_right (Nat.le_refl _)] at g2
      simp at g1 g2
      subst g1 g2
      exact ⟨vs, h1, rv⟩
theorem seq_V {d : D} (rs : RepS z L s H) (rv : RepV z.K L H d v) (h : seqD s d = some ds) : RSeq z.K L H ds v := by
  cases d with
  | tup xs => cases h; obtain ⟨a, vs, rfl, h1, h2⟩ := rv; exact ⟨a, vs, rfl, .inr h1, h2⟩
  | ref n => obtain ⟨a, ha, rfl⟩ := rv; obtain ⟨vs, h1, h2⟩ := lst_V rs ha h; exact ⟨a, vs, rfl, .inl h1, h2⟩
  | kl a ns => cases h; obtain ⟨rfl, hk⟩ := rv; exact ⟨a, _, rfl, .inl hk.sq, ints_V ns⟩
  | _ => cases h
end
section
variable {X : Cx} {W : WX} {e : Expr} {m : M D} {ml : M (List D)} {pos : Pos}
theorem e_ref (h : PE X e (tL X W ml)) : PE X e (tE X W (mRef ml)) := h.imp fun σ H Q ⟨ρ, L, s, h1, h2, h3⟩ => ⟨ρ, L, s, h1, h2, by
  unfold mRef at h3
  cases q : ml ρ s with
  | ok ds s' =>
    rw [q] at h3
    intro b L' H' e rs rt
    obtain ⟨L2, k1, k2, k3⟩ := join_L h2 e rs rt
    exact h3 b L2 H' k1 k2 k3
  | exc c s' => rw [q] at h3; exact h3
  | bad => rw [q] at h3; exact h3⟩
theorem q_tmp (h : PE X e (tL X W ml)) : PE X e (tQ X W ml) := h.imp fun σ H Q ⟨ρ, L, s, h1, h2, h3⟩ => ⟨ρ, L, s, h1, h2, by
  cases q : ml ρ s with
  | ok ds s' =>
    rw [q] at h3
    intro b L' H' e rs rt
    obtain ⟨a, vs, rfl, k1, _, _, k2⟩ := rt
    exact h3 _ L' H' e rs ⟨a, vs, rfl, .inl (.inl (.inl k1)), k2⟩
  | exc c s' => rw [q] at h3; exact h3
  | bad => rw [q] at h3; exact h3⟩
theorem q_val (h : PE X e (tE X W m)) : PE X e (tQ X W (mSeq m)) := h.imp fun σ H Q ⟨ρ, L, s, h1, h2, h3⟩ => ⟨ρ, L, s, h1, h2, (Post.bind (rep := RepV X.K) h3).mono fun v H1 ⟨d, L1, s1, e1, rs1, rv1, p1⟩ => by
  cases q : seqD s1 d with
  | some ds => rw [q] at p1; exact p1.done rs1 (seq_V rs1 rv1 q)
  | none => rw [q] at p1; exact p1.elim⟩
/-- [e, ..] -/
theorem l_lst {es : List Expr} (h : PA X es (tA X W ml)) : PE X (.List es pos) (tL X W (mLim ml)) :=
  (pe_lst h).imp fun σ H Q ⟨ρ, L, s, h1, h2, h3⟩ => ⟨ρ, L, s, h1, h2, (Post.bind (rep := RepVs X.K) h3).mono fun vs H1 ⟨ds, L1, s1, e1, rs1, rv1, p1⟩ => by
    split at p1
    · rename_i hl
      refine ⟨by rw [← rv1.len]; exact lim_line hl, fun p hp => ?_⟩
      have h0 : H p = none := by
        cases q : H p with
        | none => rfl
        | some o =>
          have hL : p ∉ L := fun hm => by
            obtain ⟨M, e, _⟩ := e1.pre
            exact rs1.notin hp (by rw [e]; exact List.mem_append_left _ hm)
          rw [e1.keep p o hL q] at hp; cases hp
      exact p1 _ L1 _ (Ext.other hp) (rs1.other hp) ⟨p, vs, rfl, upd_same, h0, rs1.notin hp, rv1.ext rs1 (Ext.other hp)⟩
    · exact p1.elim⟩
end

/-! ### statements -/
def PostS (z : Cz) (W : WX) (D : Ends) (L : List Addr) (H : Hp) : Option (Fl × S) → Prop
  | some (.nx ρ, s) => ∀ σ' L' H', Ext L H L' H' → RepS z L' s H' → RepE z.K L' H' ρ σ' → D.nx σ' H'
  | some (.bk ρ, s) => ∀ σ' L' H', Ext L H L' H' → RepS z L' s H' → RepE z.K L' H' ρ σ' → D.bk σ' H'
  | some (.ct ρ, s) => ∀ σ' L' H', Ext L H L' H' → RepS z L' s H' → RepE z.K L' H' ρ σ' → D.ct σ' H'
  | some (.rt d, s) => ∀ v L' H', Ext L H L' H' → RepS z L' s H' → RepV z.K L' H' d v → D.rt v H'
  | some (.xc c ρ, s) => ∀ cls σ' L' H', z.mg c = some cls → Ext L H L' H' → RepS z L' s H' → RepE z.K L' H' ρ σ' → W cls none σ' H'
  | none => False
def tS (X : Cx) (W : WX) (m : MS) : TS := fun D σ H => ∃ ρ L s, RepE X.K L H ρ σ ∧ RepS X.z L s H ∧ PostS X.z W D L H (m ρ s)
/-- behind a value -/
def R.st {α : Type} (r : R α) (ρ : Ev) (f : α → S → Option (Fl × S)) : Option (Fl × S) := match r with
  | .ok a s => f a s
  | .exc c s => some (.xc c ρ, s)
  | .bad => none
@[simp] theorem R.st_ok {α : Type} (a : α) (s : S) (ρ : Ev) (f : α → S → Option (Fl × S)) : (R.ok a s).st ρ f = f a s := rfl
@[simp] theorem R.st_exc {α : Type} (c : Str) (s : S) (ρ : Ev) (f : α → S → Option (Fl × S)) : (R.exc c s : R α).st ρ f = some (.xc c ρ, s) := rfl
@[simp] theorem R.st_bad {α : Type} (ρ : Ev) (f : α → S → Option (Fl × S)) : (R.bad : R α).st ρ f = none := rfl
section
variable {z : Cz} {W : WX} {D D' : Ends} {L L' : List Addr} {H H' : Hp} {r : Option (Fl × S)} {ρ : Ev} {σ : St} {s : S}
theorem PostS.from_ (e : Ext L H L' H') (h : PostS z W D L H r) : PostS z W D L' H' r := by
  match r, h with
  | some (.nx ρ, s), h => exact fun σ' L2 H2 e2 => h σ' L2 H2 (e.trans e2)
  | some (.bk ρ, s), h => exact fun σ' L2 H2 e2 => h σ' L2 H2 (e.trans e2)
  | some (.ct ρ, s), h => exact fun σ' L2 H2 e2 => h σ' L2 H2 (e.trans e2)
  | some (.rt d, s), h => exact fun v L2 H2 e2 => h v L2 H2 (e.trans e2)
  | some (.xc c ρ, s), h => exact fun cls σ' L2 H2 hc e2 => h cls σ' L2 H2 hc (e.trans e2)
  | none, h => exact h
theorem PostS.bind {α β : Type} {rep : Rep α β} {q : R α} {f : α → S → Option (Fl × S)} (h1 : RepE z.K L H ρ σ) (h2 : RepS z L s H) (h : PostS z W D L H (q.st ρ f)) :
    Post z rep W σ L H q fun b H1 => ∃ a L1 s1, Ext L H L1 H1 ∧ RepE z.K L1 H1 ρ σ ∧ RepS z L1 s1 H1 ∧ rep L1 H1 a b ∧ PostS z W D L1 H1 (f a s1) := by
  cases q with
  | ok a s' => exact fun b L' H' e rs rv => ⟨a, L', s', e, h1.ext h2 e, rs, rv, PostS.from_ e h⟩
  | exc c s' => exact fun cls L' H' hc e rs => h cls σ L' H' hc e rs (h1.ext h2 e)
  | bad => exact h
theorem PostS.done_nx (h : PostS z W D L H (some (.nx ρ, s))) (h1 : RepE z.K L H ρ σ) (h2 : RepS z L s H) : D.nx σ H := h σ L H Ext.refl h2 h1
end
def mNx : MS := fun ρ s => some (.nx ρ, s)
def mBk : MS := fun ρ s => some (.bk ρ, s)
def mCt : MS := fun ρ s => some (.ct ρ, s)
def mSq (a b : MS) : MS := fun ρ s => match a ρ s with
  | some (.nx ρ', s') => b ρ' s'
  | r => r
def mSet (i : Nat) (m : M D) : MS := fun ρ s => (m ρ s).st ρ fun d s1 => some (.nx (ρ.set i (some d)), s1)
def mRet (m : M D) : MS := fun ρ s => (m ρ s).st ρ fun d s1 => some (.rt d, s1)
def mRetN : MS := fun ρ s => some (.rt .non, s)
def mDrop (m : M D) : MS := fun ρ s => (m ρ s).st ρ fun _ s1 => some (.nx ρ, s1)
def mIfS (c : M Bool) (a b : MS) : MS := fun ρ s => (c ρ s).st ρ fun k s1 => if k = true then a ρ s1 else b ρ s1
/-- targets -/
abbrev G := D → Ev → S → R Ev
/-- targets of names alone -/
abbrev Gp := D → Ev → Option Ev
def pNm (i : Nat) : Gp := fun d ρ => some (ρ.set i (some d))
def pIts : List Gp → List D → Ev → Option Ev
  | [], [], ρ => some ρ
  | g :: gs, d :: ds, ρ => (g d ρ).bind fun ρ' => pIts gs ds ρ'
  | _, _, _ => none
def pTp (gs : List Gp) : Gp := fun d ρ => match d with
  | .tup ds => pIts gs ds ρ
  | _ => none
def gP (g : Gp) : G := fun d ρ s => R.of (g d ρ) s
/-- target = value -/
def mAsg (g : G) (m : M D) : MS := fun ρ s => (m ρ s).st ρ fun d s1 => (g d ρ s1).st ρ fun ρ' s2 => some (.nx ρ', s2)
/-- (a, b, ..) = (x, y, ..) with names: the tuple is not laid -/
def mPar (i j : Nat) (m : M (List D)) : MS := fun ρ s => (m ρ s).st ρ fun ds s1 => match ds with
  | [a, b] => some (.nx ((ρ.set i (some a)).set j (some b)), s1)
  | _ => none
def mAug (i : Nat) (g : D → D → S → R D) (m : M D) : MS := fun ρ s => match ρ[i]? with
  | some (some x) => (m ρ s).st ρ fun y s1 => (g x y s1).st ρ fun d s2 => some (.nx (ρ.set i (some d)), s2)
  | _ => none
def whileF (c : M Bool) (b : MS) : Nat → MS
  | 0 => fun _ _ => none
  | k + 1 => fun ρ s => (c ρ s).st ρ fun t s1 => if t = true then
      match b ρ s1 with
      | some (.nx ρ', s') => whileF c b k ρ' s'
      | some (.ct ρ', s') => whileF c b k ρ' s'
      | some (.bk ρ', s') => some (.nx ρ', s')
      | r => r
    else some (.nx ρ, s1)
section
variable {X : Cx} {W : WX} {e : Expr} {m : M D} {ml : M (List D)} {pos : Pos} {st : Stmt} {rest : List Stmt} {a b : MS}
theorem ss_nil : PSs X [] (tS X W mNx) := pss_nil.imp fun D σ H ⟨ρ, L, s, h1, h2, h3⟩ => h3.done_nx h1 h2
theorem ss_cons (ha : PS X st (tS X W a)) (hb : PSs X rest (tS X W b)) : PSs X (st :: rest) (tS X W (mSq a b)) := (pss_cons ha hb).imp fun D σ H ⟨ρ, L, s, h1, h2, h3⟩ => by
  refine ⟨ρ, L, s, h1, h2, ?_⟩
  unfold mSq at h3
  match q : a ρ s, h3 with
  | some (.nx ρ', s'), h3 => exact fun σ' L' H' e rs re => ⟨ρ', L', s', re, rs, PostS.from_ e h3⟩
  | some (.bk ρ', s'), h3 => exact h3
  | some (.ct ρ', s'), h3 => exact h3
  | some (.rt d, s'), h3 => exact h3
  | some (.xc c ρ', s'), h3 => exact h3
  | none, h3 => exact h3
theorem ss_one (ha : PS X st (tS X W a)) : PSs X [st] (tS X W a) := pss_one ha
theorem s_pass : PS X (.Pass pos) (tS X W mNx) := ps_pass.imp fun D σ H ⟨ρ, L, s, h1, h2, h3⟩ => h3.done_nx h1 h2
theorem s_break : PS X (.Break pos) (tS X W mBk) := ps_break.imp fun D σ H ⟨ρ, L, s, h1, h2, h3⟩ => h3 σ L H Ext.refl h2 h1
theorem s_continue : PS X (.Continue pos) (tS X W mCt) := ps_continue.imp fun D σ H ⟨ρ, L, s, h1, h2, h3⟩ => h3 σ L H Ext.refl h2 h1
theorem s_doc {x j p2} : PS X (.Expr (.Constant (.str x) j pos) p2) (tS X W mNx) := ps_doc.imp fun D σ H ⟨ρ, L, s, h1, h2, h3⟩ => h3.done_nx h1 h2
theorem s_expr (he : PE X e (tE X W m)) (hs : swapsWith e none pos.line X.env = pure false := by rfl) : PS X (.Expr e pos) (tS X W (mDrop m)) := (ps_expr he hs).imp fun D σ H ⟨ρ, L, s, h1, h2, h3⟩ =>
  ⟨ρ, L, s, h1, h2, (PostS.bind (rep := RepV X.K) h1 h2 h3).mono fun v H1 ⟨d, L1, s1, e1, re, rs, rv, p⟩ => p.done_nx re rs⟩
theorem s_ret (he : PE X e (tE X W m)) : PS X (.Return (some e) pos) (tS X W (mRet m)) := (ps_ret he).imp fun D σ H ⟨ρ, L, s, h1, h2, h3⟩ =>
  ⟨ρ, L, s, h1, h2, (PostS.bind (rep := RepV X.K) h1 h2 h3).mono fun v H1 ⟨d, L1, s1, e1, re, rs, rv, p⟩ => p v L1 H1 Ext.refl rs rv⟩
theorem s_retN : PS X (.Return none pos) (tS X W mRetN) := ps_retN.imp fun D σ H ⟨ρ, L, s, h1, h2, h3⟩ => h3 .non L H Ext.refl h2 rfl
theorem s_set (i : Nat) {x : Str} {p2 : Pos} (hN : X.N.Nodup) (he : PE X e (tE X W m)) (hi : X.N[i]? = some x := by rfl) (hx : Loc X.env.scope x := by first | exact Or.inl rfl | exact Or.inr rfl) (hs : swapsWith e (some (.Name x p2)) pos.line X.env = pure false := by rfl)
    (hf : X.fn x = true ∨ X.env.scope.names.lookup x = some .local := by first | exact .inl rfl | exact .inr rfl) : PS X (.Assign [.Name x p2] e pos) (tS X W (mSet i m)) := (ps_set hN hi hx he hs hf).imp fun D σ H ⟨ρ, L, s, h1, h2, h3⟩ =>
  ⟨ρ, L, s, h1, h2, (PostS.bind (rep := RepV X.K) h1 h2 h3).mono fun v H1 ⟨d, L1, s1, e1, re, rs, rv, p⟩ => p.done_nx (re.set i rv) rs⟩
theorem s_if {c : Expr} {sa sb : List Stmt} {mc : M Bool} (hc : PT X c (tT X W mc)) (ha : PSs X sa (tS X W a)) (hb : PSs X sb (tS X W b)) : PS X (.If c sa sb pos) (tS X W (mIfS mc a b)) := (ps_if hc ha hb).imp fun D σ H ⟨ρ, L, s, h1, h2, h3⟩ =>
  ⟨ρ, L, s, h1, h2, (PostS.bind (rep := RB) h1 h2 h3).mono fun k H1 ⟨d, L1, s1, e1, re, rs, rv, p⟩ => by
    have rv : k = d := rv
    subst rv
    cases k with
    | true => exact ⟨ρ, L1, s1, re, rs, p⟩
    | false => exact ⟨ρ, L1, s1, re, rs, p⟩⟩
/-! targets -/
def REv (K : PySem.W.Frag) : Rep Ev St := fun L H ρ σ => RepE K L H ρ σ
def tGt (X : Cx) (W : WX) (g : G) : TG := fun v σ H Q => ∃ ρ L s d, RepE X.K L H ρ σ ∧ RepS X.z L s H ∧ RepV X.K L H d v ∧ Post X.z (REv X.K) W σ L H (g d ρ s) Q
/-- names alone: slots besides is stand -/
def tGw (K : PySem.W.Frag) (is : List Nat) (g : Gp) : TG := fun v σ H Q => ∃ ρ L d ρ', RepE K L H ρ σ ∧ RepV K L H d v ∧ g d ρ = some ρ' ∧ ∀ σ', RepE K L H ρ' σ' → (∀ vs : List Nat, (∀ i ∈ is, i ∈ vs) → wipe σ' vs = wipe σ vs) → Q σ' H
def tGws (K : PySem.W.Frag) (is : List Nat) (gs : List Gp) : TGs := fun vs σ H Q => ∃ ρ L ds ρ', RepE K L H ρ σ ∧ RepVs K L H ds vs ∧ pIts gs ds ρ = some ρ' ∧ ∀ σ', RepE K L H ρ' σ' → (∀ vs : List Nat, (∀ i ∈ is, i ∈ vs) → wipe σ' vs = wipe σ vs) → Q σ' H
theorem _root_.L2.PG.imp {tg : Expr} {t t' : TG} (h : PG X tg t) (hi : ∀ v σ H Q, t' v σ H Q → t v σ H Q) : PG X tg t' := ⟨fun pins s σ H v u Q I r q => h.run pins s σ H v u Q I r (hi v σ H Q q)⟩
theorem _root_.L2.PGs.imp {tg : List Expr} {t t' : TGs} (h : PGs X tg t) (hi : ∀ v σ H Q, t' v σ H Q → t v σ H Q) : PGs X tg t' := ⟨fun pins s σ H v u Q I r q => h.run pins s σ H v u Q I r (hi v σ H Q q)⟩
theorem wipe_set {i : Nat} {v : Option V} : ∀ {vs : List Nat} {σ : St}, i ∈ vs → wipe (σ.set i v) vs = wipe σ vs
  | [], _, h => by cases h
  | w :: vs, σ, h => by
    unfold wipe
    by_cases hm : i ∈ vs
    · rw [wipe_set hm]
    · have e : i = w := (List.mem_cons.mp h).resolve_right hm
      subst e
      have all : ∀ (vs : List Nat) (σ : St), i ∉ vs → wipe (σ.set i v) vs = (wipe σ vs).set i v := by
        intro vs
        induction vs with
        | nil => intro σ _; rfl
        | cons w vs ih =>
          intro σ hn
          unfold wipe
          rw [ih σ (fun z => hn (List.mem_cons_of_mem _ z))]
          rw [List.set_comm]
          exact fun e => hn (e ▸ List.mem_cons_self)
      rw [all vs σ hm, List.set_set]
theorem w_nm (i : Nat) {x : Str} (hN : X.N.Nodup) (hi : X.N[i]? = some x := by rfl) (hx : Loc X.env.scope x := by first | exact Or.inl rfl | exact Or.inr rfl) (hf : X.fn x = true ∨ X.env.scope.names.lookup x = some .local := by first | exact .inl rfl | exact .inr rfl) :
    PG X (.Name x pos) (tGw X.K [i] (pNm i)) := (pg_name hN hi hx hf).imp fun v σ H Q ⟨ρ, L, d, ρ', h1, h2, h3, h4⟩ => by
  cases h3
  exact h4 _ (h1.set i h2) fun vs hs => wipe_set (hs i (by simp))
theorem ws_nil : PGs X [] (tGws X.K [] []) := pgs_nil.imp fun vs σ H Q ⟨ρ, L, ds, ρ', h1, h2, h3, h4⟩ => by
  cases ds with
  | nil => cases h2; cases h3; exact ⟨rfl, h4 _ h1 fun _ _ => rfl⟩
  | cons d ds => cases h3
theorem ws_cons {tg : Expr} {tgs : List Expr} {g : Gp} {gs : List Gp} {is js : List Nat} (h : PG X tg (tGw X.K is g)) (hr : PGs X tgs (tGws X.K js gs)) (hs : (assignEach (tg :: tgs) X.env).map (·.2) = assign tg X.env :: (assignEach tgs X.env).map (·.2) := by rfl) :
    PGs X (tg :: tgs) (tGws X.K (is ++ js) (g :: gs)) := (pgs_cons h hr hs).imp fun vs σ H Q ⟨ρ, L, ds, ρ', h1, h2, h3, h4⟩ => by
  cases ds with
  | nil => cases h3
  | cons d ds =>
    obtain ⟨v, r, rfl, k1, k2⟩ := h2
    obtain ⟨ρ1, q1, q2⟩ := Option.bind_eq_some_iff.mp h3
    exact ⟨v, r, rfl, ρ, L, d, ρ1, h1, k1, q1, fun σ1 re hw => ⟨ρ1, L, ds, ρ', re, k2, q2, fun σ2 re2 hw2 => h4 σ2 re2 fun vs hv => (hw2 vs fun i hi => hv i (List.mem_append_right _ hi)).trans (hw vs fun i hi => hv i (List.mem_append_left _ hi))⟩⟩
theorem pIts_len : ∀ {gs : List Gp} {ds : List D} {ρ ρ' : Ev}, pIts gs ds ρ = some ρ' → ds.length = gs.length
  | [], [], _, _, _ => rfl
  | [], _ :: _, _, _, h => by cases h
  | _ :: _, [], _, _, h => by cases h
  | g :: gs, d :: ds, ρ, ρ', h => by
    obtain ⟨ρ1, q1, q2⟩ := Option.bind_eq_some_iff.mp h
    simp [pIts_len q2]
theorem w_tp {es : List Expr} {k : Nat} {gs : List Gp} {is : List Nat} (hc : X.calm = true) (h : PGs X es (tGws X.K is gs)) (hn : (assignEach es X.env).length = gs.length := by rfl) (hst : (assignEach es X.env).findIdx? (·.1) = none := by rfl) : PG X (.Tuple es k pos) (tGw X.K is (pTp gs)) :=
  (pg_tup hc h hn hst).imp fun v σ H Q ⟨ρ, L, d, ρ', h1, h2, h3, h4⟩ => by
    cases d with
    | tup ds =>
      obtain ⟨a, vs, rfl, k1, k2⟩ := h2
      have h3 : pIts gs ds ρ = some ρ' := h3
      exact ⟨a, vs, rfl, k1, by rw [← k2.len, pIts_len h3], ρ, L, ds, ρ', h1, k2, h3, h4⟩
    | _ => cases h3
theorem g_pure {tg : Expr} {g : Gp} {is : List Nat} (h : PG X tg (tGw X.K is g)) : PG X tg (tGt X W (gP g)) := h.imp fun v σ H Q ⟨ρ, L, s, d, h1, h2, h3, h4⟩ => by
  unfold gP at h4
  cases q : g d ρ with
  | some ρ' => rw [q] at h4; exact ⟨ρ, L, d, ρ', h1, h3, q, fun σ' re _ => h4.done h2 re⟩
  | none => rw [q] at h4; exact h4.elim
theorem s_asg {tg : Expr} {g : G} (he : PE X e (tE X W m)) (hg : PG X tg (tGt X W g)) (hs : swapsWithSole [tg] e pos.line X.env = pure false := by rfl) (hw : swappedStores [tg] e X.env = pure none := by rfl)
    (h1 : (assignEach [tg] X.env).map (·.2) = [assign tg X.env] := by rfl) : PS X (.Assign [tg] e pos) (tS X W (mAsg g m)) := (ps_asg he hg hs hw h1).imp fun D σ H ⟨ρ, L, s, h1, h2, h3⟩ =>
  ⟨ρ, L, s, h1, h2, (PostS.bind (rep := RepV X.K) h1 h2 h3).mono fun v H1 ⟨d, L1, s1, e1, re, rs, rv, p⟩ =>
    ⟨ρ, L1, s1, d, re, rs, rv, (PostS.bind (rep := REv X.K) re rs p).mono fun σ2 H2 ⟨ρ2, L2, s2, e2, re2, rs2, rv2, p2⟩ => p2.done_nx rv2 rs2⟩⟩
theorem s_par {i j : Nat} {x y : Str} {ea eb : Expr} {px py pt : Pos} {kt k2 pt2} (hc : X.calm = true) (hN : X.N.Nodup) (hi : X.N[i]? = some x) (hj : X.N[j]? = some y) (hij : i ≠ j)
    (hx : X.env.scope.names.lookup x = some .local) (hy : X.env.scope.names.lookup y = some .local) (ha : PA X [ea, eb] (tA X W ml))
    (hw : swappedStores [.Tuple [.Name x px, .Name y py] kt pt] (.Tuple [ea, eb] k2 pt2) X.env = pure (some [x, y]))
    (hs : swapsWithSole [.Tuple [.Name x px, .Name y py] kt pt] (.Tuple [ea, eb] k2 pt2) pos.line X.env = pure false := by rfl) :
    PS X (.Assign [.Tuple [.Name x px, .Name y py] kt pt] (.Tuple [ea, eb] k2 pt2) pos) (tS X W (mPar i j ml)) := (ps_par hc hN hi hj hij hx hy ha hw hs).imp fun D σ H ⟨ρ, L, s, h1, h2, h3⟩ =>
  ⟨ρ, L, s, h1, h2, (PostS.bind (rep := RepVs X.K) h1 h2 h3).mono fun vs H1 ⟨ds, L1, s1, e1, re, rs, rv, p⟩ => by
    match ds, rv, p with
    | [d1, d2], rv, p =>
      obtain ⟨v1, r, rfl, k1, k2⟩ := rv
      obtain ⟨v2, r, rfl, k3, k4⟩ := k2
      cases k4
      exact ⟨v1, v2, rfl, p.done_nx ((re.set i k1).set j k3) rs⟩
    | [], rv, p => exact p.elim
    | [_], rv, p => exact p.elim
    | _ :: _ :: _ :: _, rv, p => exact p.elim⟩
/-- name op= e -/
def IpF (X : Cx) (op : Operator) (g : D → D → S → R D) : Prop := ∃ t : TIp, PIp X op t ∧ OpF X.z g t
theorem s_aug (i : Nat) {x : Str} {op : Operator} {g : D → D → S → R D} {p2 : Pos} (hN : X.N.Nodup) (he : PE X e (tE X W m)) (ho : IpF X op g) (hi : X.N[i]? = some x := by rfl) (hx : Loc X.env.scope x := by first | exact Or.inl rfl | exact Or.inr rfl)
    (hf : X.fn x = true ∨ X.env.scope.names.lookup x = some .local := by first | exact .inl rfl | exact .inr rfl) : PS X (.AugAssign (.Name x p2) op e pos) (tS X W (mAug i g m)) := by
  obtain ⟨t, ho1, ho2⟩ := ho
  refine (ps_aug hN hi hx he ho1 hf).imp fun D σ H ⟨ρ, L, s, h1, h2, h3⟩ => ?_
  unfold mAug at h3
  split at h3
  · rename_i d q
    obtain ⟨v, q1, rv⟩ := h1.2 _ _ q
    refine ⟨v, q1, ρ, L, s, h1, h2, (PostS.bind (rep := RepV X.K) h1 h2 h3).mono fun v2 H1 ⟨d2, L1, s1, e1, re, rs, rv2, p⟩ => ?_⟩
    refine ho2 W σ L1 s1 H1 d d2 v v2 _ rs (rv.ext h2 e1) rv2 ((PostS.bind (rep := RepV X.K) re rs p).mono fun v3 H2 ⟨d3, L2, s2, e2, re2, rs2, rv3, p2⟩ => p2.done_nx (re2.set i rv3) rs2)
  · exact h3.elim
/-- while -/
theorem s_while {c : Expr} {body : List Stmt} {mc : M Bool} (k : Nat) (hp : PassesOwn (model X.prog X.w) X.A X.env X.xe) (hc : PT X c (tT X W mc)) (hb : PSs X body (tS X W b)) : PS X (.While c body [] pos) (tS X W (whileF mc b k)) :=
  (ps_while hp hc hb).imp fun D σ H h => by
    refine ⟨fun k σ H => tS X W (whileF mc b k) D σ H, ⟨k, h⟩, ?_⟩
    rintro k σ H ⟨ρ, L, s, h1, h2, h3⟩
    cases k with
    | zero => exact h3.elim
    | succ k =>
      unfold whileF at h3
      refine ⟨ρ, L, s, h1, h2, (PostS.bind (rep := RB) h1 h2 h3).mono fun t H1 ⟨d, L1, s1, e1, re, rs, rv, p⟩ => ?_⟩
      have rv : t = d := rv
      subst rv
      cases t with
      | false => exact p.done_nx re rs
      | true =>
        rw [if_pos rfl] at p ⊢
        refine ⟨fun σ' H' => tS X W (whileF mc b k) D σ' H', fun σ' H' q => ⟨k, Nat.lt_succ_self k, q⟩, ρ, L1, s1, re, rs, ?_⟩
        match q : b ρ s1, p with
        | some (.nx ρ', s'), p => exact fun σ' L' H' e rs re => ⟨ρ', L', s', re, rs, PostS.from_ e p⟩
        | some (.ct ρ', s'), p => exact fun σ' L' H' e rs re => ⟨ρ', L', s', re, rs, PostS.from_ e p⟩
        | some (.bk ρ', s'), p => exact p
        | some (.rt d, s'), p => exact p
        | some (.xc c ρ', s'), p => exact p
        | none, p => exact p
end
end Z

set_option Elab.async false
set_option linter.all false
set_option maxRecDepth 100000
set_option maxHeartbeats 4000000
/-! ZLoop: what a loop walks; for; list comprehensions. -/
namespace Z
open PySem L2
/-- what a loop walks: items as they are, or a list of the store that stays -/
inductive Src where
  | fix (ds : List D) | chk (n : Nat) (ds : List D)
def Src.items : Src → List D
  | .fix ds => ds
  | .chk _ ds => ds
def Src.ok : Src → S → Bool
  | .fix _, _ => true
  | .chk n ds, s => decide (lstAt s n = some ds)
structure Steps (z : Cz) (L₀ : List Addr) (H₀ : Hp) (src : Src) (J : It) : Prop where
  go : ∀ i L s H, Ext L₀ H₀ L H → RepS z L s H → src.ok s = true → i < src.items.length → J.go i H
  yld : ∀ i L s H x H' d, Ext L₀ H₀ L H → RepS z L s H → src.ok s = true → src.items[i]? = some d → J.yld i H x H' → Ext L H L H' ∧ RepS z L s H' ∧ RepV z.K L H' d x
  stop : ∀ L s H, Ext L₀ H₀ L H → RepS z L s H → src.ok s = true → J.stop src.items.length H
def RSrc (z : Cz) : Rep Src It := fun L H src J => Steps z L H src J
abbrev tIt (X : Cx) (W : WX) (m : M Src) : TI := tG X.z (RSrc X.z) W m
section
variable {z : Cz} {L : List Addr} {H : Hp} {s : S} {ds : List D} {vs : List V} {a : Addr}
/-- a list whose items stand, by any reason -/
theorem steps_l {src : Src} (hs : src.items = ds) (h : ∀ L' s' H', Ext L H L' H' → RepS z L' s' H' → src.ok s' = true → ∃ vs, SqL z.K H' a vs ∧ RepVs z.K L' H' ds vs) : Steps z L H src (Itl z.K a) := by
  refine ⟨fun i L' s' H' e r ok hi => ?_, fun i L' s' H' x H2 d e r ok hd hy => ?_, fun L' s' H' e r ok => ?_⟩
  · obtain ⟨vs, h1, h2⟩ := h L' s' H' e r ok
    rw [hs] at hi
    have hl := h2.len
    exact ⟨vs, vs[i]'(by omega), h1, by simp⟩
  · obtain ⟨vs, h1, h2⟩ := h L' s' H' e r ok
    obtain ⟨rfl, hy⟩ := hy
    rw [hs] at hd
    obtain ⟨v, hv, rv⟩ := h2.get hd
    have := hy vs h1
    rw [hv] at this
    cases this
    exact ⟨Ext.refl, r, rv⟩
  · obtain ⟨vs, h1, h2⟩ := h L' s' H' e r ok
    exact ⟨vs, h1, by rw [hs, h2.len]; exact Nat.le_refl _⟩
theorem steps_t (rs : RepS z L s H) (h1 : SqT z.K H a vs) (h2 : RepVs z.K L H ds vs) : Steps z L H (.fix ds) (Itt z.K a) := by
  refine ⟨fun i L' s' H' e r ok hi => ?_, fun i L' s' H' x H2 d e r ok hd hy => ?_, fun L' s' H' e r ok => ?_⟩
  · have hl := h2.len
    have hi : i < ds.length := hi
    exact ⟨vs, vs[i]'(by omega), SqT.ext rs e h1, by simp⟩
  · obtain ⟨rfl, hy⟩ := hy
    obtain ⟨v, hv, rv⟩ := (h2.ext rs e).get hd
    have := hy vs (SqT.ext rs e h1)
    rw [hv] at this
    cases this
    exact ⟨Ext.refl, r, rv⟩
  · exact ⟨vs, SqT.ext rs e h1, by rw [← h2.len]; exact Nat.le_refl _⟩
def rangeD (lo : Int) (n : Nat) : List D := (List.range n).map fun i => .int (lo + (i : Nat))
theorem steps_r (lo : Int) (n : Nat) : Steps z L H (.fix (rangeD lo n)) (Itr lo n) := by
  refine ⟨fun i L' s' H' e r ok hi => ?_, fun i L' s' H' x H2 d e r ok hd hy => ?_, fun L' s' H' e r ok => ?_⟩
  · show i < n
    have hi : i < (rangeD lo n).length := hi
    simpa [rangeD] using hi
  · obtain ⟨rfl, rfl⟩ := hy
    have hd : (rangeD lo n)[i]? = some d := hd
    unfold rangeD at hd
    rw [List.getElem?_map] at hd
    obtain ⟨j, hj, e2⟩ := Option.map_eq_some_iff.mp hd
    obtain ⟨hl, hj⟩ := List.getElem?_eq_some_iff.mp hj
    rw [List.getElem_range] at hj
    subst hj e2
    exact ⟨Ext.refl, r, rfl⟩
  · show n ≤ (rangeD lo n).length
    simp [rangeD]
theorem Ext.none {L' : List Addr} {H' : Hp} {s' : S} {p : Addr} (e : Ext L H L' H') (r : RepS z L' s' H') (h : H' p = none) : H p = none := by
  cases q : H p with
  | none => rfl
  | some o =>
    have hL : p ∉ L := fun hm => by
      obtain ⟨M, e, _⟩ := e.pre
      exact r.notin h (by rw [e]; exact List.mem_append_left _ hm)
    rw [e.keep p o hL q] at h; cases h
end
/-! ### sources -/
def mSrcV (m : M D) : M Src := fun ρ s => (m ρ s).bind fun d s1 => match d with
  | .tup ds => .ok (.fix ds) s1
  | .ref n => match lstAt s1 n with
    | some ds => .ok (.chk n ds) s1
    | none => .bad
  | .kl _ ns => .ok (.fix (ns.map D.int)) s1
  | _ => .bad
def mSrcL (m : M (List D)) : M Src := fun ρ s => (m ρ s).bind fun ds s1 => .ok (.fix ds) s1
def rg (i : Int) : Bool := decide (i.natAbs < 2 ^ 62)
def mRange1 (m : M D) : M Src := fun ρ s => (m ρ s).bind fun d s1 => match d with
  | .int j => if rg j then .ok (.fix (rangeD 0 j.toNat)) s1 else .bad
  | _ => .bad
def mRange2 (m m' : M D) : M Src := fun ρ s => (m ρ s).bind fun d s1 => (m' ρ s1).bind fun d' s2 => match d, d' with
  | .int i, .int j => if rg i && rg j then .ok (.fix (rangeD i (j - i).toNat)) s2 else .bad
  | _, _ => .bad
section
variable {X : Cx} {W : WX} {e e2 : Expr} {m m2 : M D} {ml : M (List D)} {pos p : Pos} {tg : Expr}
theorem i_val (he : PE X e (tE X W m)) : PI X tg e (tIt X W (mSrcV m)) := by
  refine ⟨fun pins sh σ H R I ⟨ρ, L, s, h1, h2, h3⟩ => ?_⟩
  unfold mSrcV at h3
  have lst : (∀ d s', m ρ s = .ok d s' → ∃ n ds, d = .ref n ∧ lstAt s' n = some ds) → wpAny (model X.prog X.w) X.A (eval e X.env) (fun v s1 => wpAny (model X.prog X.w) X.A (pyIter v) (PIE X pins σ tg R) X.xe s1) X.xe sh := fun hr => by
    refine (pi_list he).run pins sh σ H R I ⟨ρ, L, s, h1, h2, ?_⟩
    cases q : m ρ s with
    | ok d s' =>
      obtain ⟨n, ds, rfl, hl⟩ := hr d s' q
      rw [q] at h3
      have h3 : Post X.z (RSrc X.z) W σ L H (match lstAt s' n with | some ds => .ok (.chk n ds) s' | none => .bad) R := h3
      rw [hl] at h3
      intro v L' H' e rs rv
      obtain ⟨a, ha, rfl⟩ := rv
      obtain ⟨vs, hq, hv⟩ := lst_V rs ha hl
      refine ⟨a, rfl, ⟨vs, hq⟩, h3 _ L' H' e rs (steps_l rfl (fun L2 s2 H2 e2 r2 ok => ?_))⟩
      have ok : lstAt s2 n = some ds := of_decide_eq_true ok
      obtain ⟨M, eM, _⟩ := e2.pre
      exact lst_V r2 (by rw [eM, List.getElem?_append_left (List.getElem?_eq_some_iff.mp ha).1]; exact ha) ok
    | exc c s' => rw [q] at h3; exact h3
    | bad => rw [q] at h3; exact h3
  cases q : m ρ s with
  | ok d s' =>
    rw [q] at h3
    cases d with
    | tup ds =>
      refine (pi_tup he).run pins sh σ H R I ⟨ρ, L, s, h1, h2, ?_⟩
      rw [q]
      intro v L' H' e rs rv
      obtain ⟨a, vs, rfl, ht, hv⟩ := rv
      exact ⟨a, rfl, ⟨vs, ht⟩, h3 _ L' H' e rs (steps_t rs ht hv)⟩
    | ref n =>
      refine lst fun d' s2 q' => ?_
      rw [q] at q'
      cases q'
      have h3 : Post X.z (RSrc X.z) W σ L H (match lstAt s' n with | some ds => .ok (.chk n ds) s' | none => .bad) R := h3
      cases hl : lstAt s' n with
      | some ds => exact ⟨n, ds, rfl, hl⟩
      | none => rw [hl] at h3; exact h3.elim
    | kl a ns =>
      refine (pi_list he).run pins sh σ H R I ⟨ρ, L, s, h1, h2, ?_⟩
      rw [q]
      intro v L' H' e rs rv
      obtain ⟨rfl, hk⟩ := rv
      exact ⟨a, rfl, ⟨_, hk.sq⟩, h3 _ L' H' e rs (steps_l rfl fun L2 s2 H2 e2 r2 ok => ⟨_, (KL.ext (z := X.z) rs e2 hk).sq, ints_V ns⟩)⟩
    | _ => exact h3.elim
  | exc c s' => exact lst fun d' s2 q' => by rw [q] at q'; cases q'
  | bad => rw [q] at h3; exact h3.elim
/-- a list that is not the store's -/
theorem i_tmp (he : PE X e (tL X W ml)) : PI X tg e (tIt X W (mSrcL ml)) := by
  refine ⟨fun pins sh σ H R I ⟨ρ, L, s, h1, h2, h3⟩ => (pi_list he).run pins sh σ H R I ⟨ρ, L, s, h1, h2, ?_⟩⟩
  unfold mSrcL at h3
  cases q : ml ρ s with
  | ok ds s' =>
    rw [q] at h3
    intro v L' H' e rs rv
    obtain ⟨a, vs, rfl, k1, k2, k3, k4⟩ := rv
    refine ⟨a, rfl, ⟨vs, SqL.of k1⟩, h3 _ L' H' e rs (steps_l (ds := ds) rfl fun L2 s2 H2 e2 r2 ok => ⟨vs, SqL.of (e2.keep a _ k3 k1), k4.ext rs e2⟩)⟩
  | exc c s' => rw [q] at h3; exact h3
  | bad => rw [q] at h3; exact h3
theorem rg_iff {i : Int} (h : rg i = true) : -(2 ^ 62) ≤ i ∧ i < 2 ^ 62 := by
  have h := of_decide_eq_true h
  omega
theorem i_range1 (hg : Gl X "range") (hm : X.mg "range" = none) (ha : PE X e (tE X W m)) (hs : starEach [e] X.env = [(false, eval e X.env)] := by rfl) : PI X tg (.Call (.Name "range" p) [e] [] pos) (tIt X W (mRange1 m)) := by
  have k := pi_range1 (tg := tg) (p := p) (pos := pos) hg hm (pa_cons ha pa_nil hs) hs
  refine ⟨fun pins sh σ H R I ⟨ρ, L, s, h1, h2, h3⟩ => k.run pins sh σ H R I ⟨ρ, L, s, h1, h2, ?_⟩⟩
  unfold mRange1 at h3
  refine (Post.bind (rep := RepV X.K) h3).mono fun v H1 ⟨d, L1, s1, e1, rs, rv, p⟩ => ?_
  cases d with
  | int j =>
    cases rv
    have p' : Post X.z (RSrc X.z) W σ L1 H1 (if rg j then .ok (.fix (rangeD 0 j.toNat)) s1 else .bad) R := p
    split at p'
    · rename_i hr
      have hr := rg_iff hr
      exact ⟨j, rfl, hr.1, hr.2, p'.done rs (steps_r 0 j.toNat)⟩
    · exact p'.elim
  | _ => exact p.elim
theorem i_range2 (hg : Gl X "range") (hm : X.mg "range" = none) (ha : PE X e (tE X W m)) (hb : PE X e2 (tE X W m2)) (hs : starEach [e, e2] X.env = [(false, eval e X.env), (false, eval e2 X.env)] := by rfl) (hs2 : starEach [e2] X.env = [(false, eval e2 X.env)] := by rfl)
    (hs3 : starEach [e, e2] X.env = (false, eval e X.env) :: starEach [e2] X.env := by rfl) : PI X tg (.Call (.Name "range" p) [e, e2] [] pos) (tIt X W (mRange2 m m2)) := by
  have k := pi_range2 (tg := tg) (p := p) (pos := pos) hg hm (pa_cons ha (pa_cons hb pa_nil hs2) hs3) hs hs2
  refine ⟨fun pins sh σ H R I ⟨ρ, L, s, h1, h2, h3⟩ => k.run pins sh σ H R I ⟨ρ, L, s, h1, h2, ?_⟩⟩
  unfold mRange2 at h3
  refine (Post.bind (rep := RepV X.K) h3).mono fun v H1 ⟨d, L1, s1, e1, rs, rv, p⟩ => ⟨ρ, L1, s1, h1.ext h2 e1, rs, (Post.bind (rep := RepV X.K) p).mono fun v2 H2 ⟨d2, L2, s2, e2, rs2, rv2, p2⟩ => ?_⟩
  cases d with
  | int i =>
    cases d2 with
    | int j =>
      cases rv; cases rv2
      have p' : Post X.z (RSrc X.z) W σ L2 H2 (if rg i && rg j then .ok (.fix (rangeD i (j - i).toNat)) s2 else .bad) R := p2
      split at p'
      · rename_i hr
        rw [Bool.and_eq_true] at hr
        have hi := rg_iff hr.1
        have hj := rg_iff hr.2
        exact ⟨i, j, rfl, ⟨hi.1, hi.2, hj.1, hj.2⟩, p'.done rs2 (steps_r i (j - i).toNat)⟩
      · exact p'.elim
    | _ => exact p2.elim
  | _ => exact p2.elim
end
/-! ### for -/
def forF (ok : S → Bool) (g : G) (b : MS) : List D → MS
  | [] => fun ρ s => if ok s = true then some (.nx ρ, s) else none
  | d :: ds => fun ρ s => if ok s = true then (g d ρ s).st ρ fun ρ1 s1 => match b ρ1 s1 with
      | some (.nx ρ', s') => forF ok g b ds ρ' s'
      | some (.ct ρ', s') => forF ok g b ds ρ' s'
      | some (.bk ρ', s') => some (.nx ρ', s')
      | r => r
    else none
def mFor (mi : M Src) (g : G) (b : MS) : MS := fun ρ s => (mi ρ s).st ρ fun src s1 => forF src.ok g b src.items ρ s1
section
variable {X : Cx} {W : WX} {iter tg : Expr} {mi : M Src} {pos : Pos} {g : G} {b : MS} {body : List Stmt}
theorem s_for (hp : PassesOwn (model X.prog X.w) X.A X.env X.xe) (hc : X.calm = true) (hi : PI X tg iter (tIt X W mi)) (hg : PG X tg (tGt X W g)) (hb : PSs X body (tS X W b))
    (hs : ∀ x, foldedSetIterable iter X.env x = pure x := by intro _; rfl) : PS X (.For tg iter body [] pos) (tS X W (mFor mi g b)) := (ps_for hp hc hi hg hb hs).imp fun D σ H ⟨ρ, L, s, h1, h2, h3⟩ => by
  unfold mFor at h3
  refine ⟨ρ, L, s, h1, h2, (PostS.bind (rep := RSrc X.z) h1 h2 h3).mono fun J H1 ⟨src, L1, s1, e1, re1, rs1, st, p⟩ => ?_⟩
  refine ⟨fun i m σ H => m = src.items.length - i ∧ i ≤ src.items.length ∧ ∃ ρ L s, Ext L1 H1 L H ∧ RepE X.K L H ρ σ ∧ RepS X.z L s H ∧ PostS X.z W D L H (forF src.ok g b (src.items.drop i) ρ s), ⟨_, rfl, Nat.zero_le _, ρ, L1, s1, Ext.refl, re1, rs1, p⟩, ?_⟩
  rintro i m σ H ⟨rfl, hi, ρ, L, s, e, re, rs, p⟩
  by_cases hlt : i < src.items.length
  · rw [List.drop_eq_getElem_cons hlt] at p
    unfold forF at p
    split at p
    · rename_i ok
      refine .inr ⟨st.go i L s H e rs ok hlt, fun σ' H' => (fun i m σ H => m = src.items.length - i ∧ i ≤ src.items.length ∧ ∃ ρ L s, Ext L1 H1 L H ∧ RepE X.K L H ρ σ ∧ RepS X.z L s H ∧ PostS X.z W D L H (forF src.ok g b (src.items.drop i) ρ s)) (i + 1) (src.items.length - (i + 1)) σ' H',
        fun σ' H' q => ⟨_, by omega, q⟩, fun x H' hy => ?_⟩
      obtain ⟨e2, rs2, rv2⟩ := st.yld i L s H x H' _ e rs ok (List.getElem?_eq_getElem hlt) hy
      have re2 := re.ext rs e2
      refine ⟨ρ, L, s, _, re2, rs2, rv2, (PostS.bind (rep := REv X.K) re2 rs2 (PostS.from_ e2 p)).mono fun σ3 H3 ⟨ρ3, L3, s3, e3, _, rs3, re3, p3⟩ => ⟨ρ3, L3, s3, re3, rs3, ?_⟩⟩
      have eall := (e.trans e2).trans e3
      match q : b ρ3 s3, p3 with
      | some (.nx ρ', s'), p => exact fun σ' L' H' e rs re => ⟨rfl, hlt, ρ', L', s', eall.trans e, re, rs, PostS.from_ e p⟩
      | some (.ct ρ', s'), p => exact fun σ' L' H' e rs re => ⟨rfl, hlt, ρ', L', s', eall.trans e, re, rs, PostS.from_ e p⟩
      | some (.bk ρ', s'), p => exact p
      | some (.rt d, s'), p => exact p
      | some (.xc c ρ', s'), p => exact p
      | none, p => exact p
    · exact p.elim
  · have hi' : i = src.items.length := by omega
    subst hi'
    rw [List.drop_length] at p
    unfold forF at p
    split at p
    · rename_i ok
      exact .inl ⟨st.stop L s H e rs ok, p.done_nx re rs⟩
    · exact p.elim
end
/-! ### [elt for tg in iter if ..] -/
def R.bindN {α β : Type} (r : R α) (f : α → S → R β) : R β := match r with
  | .ok a s => f a s
  | _ => .bad
@[simp] theorem R.bindN_ok {α β : Type} (a : α) (s : S) (f : α → S → R β) : (R.ok a s).bindN f = f a s := rfl
@[simp] theorem R.bindN_exc {α β : Type} (c : Str) (s : S) (f : α → S → R β) : (R.exc c s : R α).bindN f = .bad := rfl
@[simp] theorem R.bindN_bad {α β : Type} (f : α → S → R β) : (R.bad : R α).bindN f = .bad := rfl
def wipeD (ρ : Ev) : List Nat → Ev
  | [] => ρ
  | v :: vs => (wipeD ρ vs).set v none
theorem wipe_rep {K : PySem.W.Frag} {L : List Addr} {H : Hp} {ρ : Ev} {σ : St} (h : RepE K L H ρ σ) : ∀ vs : List Nat, RepE K L H (wipeD ρ vs) (wipe σ vs)
  | [] => h
  | v :: vs => by
    have ih := wipe_rep h vs
    unfold wipeD wipe
    refine ⟨by simp [ih.1], fun j e q => ?_⟩
    by_cases hj : v = j
    · subst hj
      have hl : v < (wipeD ρ vs).length := by have := (List.getElem?_eq_some_iff.mp q).1; simpa using this
      rw [List.getElem?_set_self hl] at q; cases q
    · rw [List.getElem?_set_ne hj] at q ⊢
      exact ih.2 j e q
def mYes : M Bool := fun _ s => .ok true s
def lcF (ok : S → Bool) (g : Gp) (tt : M Bool) (te : M D) (ρ : Ev) : List D → List D → S → R (List D)
  | [], acc, s => if ok s = true then .ok acc s else .bad
  | d :: ds, acc, s => if ok s = true then match g d ρ with
      | some ρ1 => (tt ρ1 s).bindN fun k s2 => if k = true then (te ρ1 s2).bindN fun y s3 => if acc.length < lim then lcF ok g tt te ρ ds (acc ++ [y]) s3 else .bad else lcF ok g tt te ρ ds acc s2
      | none => .bad
    else .bad
def mLc (mi : M Src) (g : Gp) (vs : List Nat) (tt : M Bool) (te : M D) : M (List D) := fun ρ s => (mi ρ s).bind fun src s1 => lcF src.ok g tt te (wipeD ρ vs) src.items [] s1
/-- no exception is let out of a block -/
abbrev W0 : WX := fun _ _ _ _ => False
theorem Post.bindN {z : Cz} {α β γ β' : Type} {rep : Rep α β} {rep' : Rep γ β'} {W : WX} {σ σ' : St} {L₀ L : List Addr} {H₀ H : Hp} {r : R α} {f : α → S → R γ} {Q : β' → Hp → Prop} (h : Post z rep' W σ L₀ H₀ (r.bindN f) Q) :
    Post z rep W0 σ' L H r fun b H1 => ∃ a L1 s1, Ext L H L1 H1 ∧ RepS z L1 s1 H1 ∧ rep L1 H1 a b ∧ Post z rep' W σ L₀ H₀ (f a s1) Q := by
  cases r with
  | ok a s => exact fun b L' H' e rs rv => ⟨a, L', s, e, rs, rv, h⟩
  | exc c s => exact h.elim
  | bad => exact h
theorem wipe_in {σ : St} {i : Nat} : ∀ {vs : List Nat}, i ∈ vs → i < σ.length → (wipe σ vs)[i]? = some none
  | [], h, _ => by cases h
  | v :: vs, h, hl => by
    unfold wipe
    by_cases hv : v = i
    · subst hv
      exact List.getElem?_set_self (by rw [wipe_length]; exact hl)
    · rw [List.getElem?_set_ne hv]
      exact wipe_in ((List.mem_cons.mp h).resolve_left fun e => hv e.symm) hl
theorem wipe_wipe (σ : St) (vs : List Nat) : wipe (wipe σ vs) vs = wipe σ vs := by
  refine List.ext_getElem? fun i => ?_
  by_cases hi : i ∈ vs
  · by_cases hl : i < σ.length
    · rw [wipe_in hi (by rw [wipe_length]; exact hl), wipe_in hi hl]
    · rw [List.getElem?_eq_none (by rw [wipe_length, wipe_length]; omega), List.getElem?_eq_none (by rw [wipe_length]; omega)]
  · exact wipe_out hi
theorem _root_.L2.PTs.imp {X : Cx} {e : List Expr} {t t' : TT} (h : PTs X e t) (hi : ∀ σ H Q, t' σ H Q → t σ H Q) : PTs X e t' := ⟨fun pins s σ H Q I q => h.run pins s σ H Q I (hi σ H Q q)⟩
section
variable {X : Cx} {W : WX} {elt tg iter : Expr} {ifs : List Expr} {scope : Scope} {own : List (Str × Nat)} {pos : Pos} {mi : M Src} {g : Gp} {is : List Nat} {tt : M Bool} {te : M D}
theorem ts_nil : PTs X [] (tT X W mYes) := pts_nil.imp fun σ H Q ⟨ρ, L, s, h1, h2, h3⟩ => h3.done h2 rfl
theorem ts_one {c : Expr} {m : M Bool} (h : PT X c (tT X W m)) : PTs X [c] (tT X W m) := pts_one h
theorem lc_imp (hsub : ∀ i ∈ is, i ∈ own.map (·.2)) (σ : St) (H : Hp) (Q : VK) (h : tL X W (mLc mi g (own.map (·.2)) tt te) σ H Q) : tLc (tIt X W mi) (tGw X.K is g) (tT X W0 tt) (tE X W0 te) (own.map (·.2)) σ H Q := by
  obtain ⟨ρ, L, s, h1, h2, h3⟩ := h
  unfold mLc at h3
  refine ⟨ρ, L, s, h1, h2, (Post.bind (rep := RSrc X.z) h3).mono fun J H1 ⟨src, L1, s1, e1, rs1, st, p⟩ Dd hD => ?_⟩
  have hD0 : H Dd = none := e1.none rs1 hD
  have re1 := wipe_rep (h1.ext h2 e1) (own.map (·.2))
  have e0 : Ext L1 H1 L1 (upd H1 Dd (.lst [])) := Ext.other hD
  refine ⟨fun i m H' => m = src.items.length - i ∧ i ≤ src.items.length ∧ ∃ L' s' acc accV, Ext L1 H1 L' H' ∧ RepS X.z L' s' H' ∧ Dd ∉ L' ∧ H' Dd = some (.lst accV) ∧ RepVs X.K L' H' acc accV ∧ Post X.z (RTmp X.K H) W σ L1 H1 (lcF src.ok g tt te (wipeD ρ (own.map (·.2))) (src.items.drop i) acc s') Q,
    ⟨_, rfl, Nat.zero_le _, L1, s1, [], [], e0, rs1.other hD, rs1.notin hD, upd_same, RepVs.nil, p⟩, ?_⟩
  rintro i m H2 ⟨rfl, hi, L2, s2, acc, accV, e2, rs2, nD, hD2, ra, p⟩
  by_cases hlt : i < src.items.length
  · rw [List.drop_eq_getElem_cons hlt] at p
    unfold lcF at p
    split at p
    · rename_i ok
      refine .inr ⟨st.go i L2 s2 H2 e2 rs2 ok hlt, fun H' => (fun i m H' => m = src.items.length - i ∧ i ≤ src.items.length ∧ ∃ L' s' acc accV, Ext L1 H1 L' H' ∧ RepS X.z L' s' H' ∧ Dd ∉ L' ∧ H' Dd = some (.lst accV) ∧ RepVs X.K L' H' acc accV ∧ Post X.z (RTmp X.K H) W σ L1 H1 (lcF src.ok g tt te (wipeD ρ (own.map (·.2))) (src.items.drop i) acc s') Q) (i + 1) (src.items.length - (i + 1)) H',
        fun H' q => ⟨_, by omega, q⟩, fun x H3 hy => ?_⟩
      obtain ⟨e3, rs3, rv3⟩ := st.yld i L2 s2 H2 x H3 _ e2 rs2 ok (List.getElem?_eq_getElem hlt) hy
      have e13 := e2.trans e3
      have hD3 := e3.keep Dd _ nD hD2
      split at p
      · rename_i ρ1 hg
        refine ⟨_, L2, _, ρ1, re1.ext rs1 e13, rv3, hg, fun σ' re hw => ⟨(hw _ hsub).trans (wipe_wipe _ _), ρ1, L2, s2, re, rs3, (Post.bindN (rep := RB) p).mono fun k H4 ⟨k', L4, s4, e4, rs4, rk, p4⟩ => ?_⟩⟩
        have rk : k = k' := rk
        subst rk
        have nL : ∀ {L' L'' : List Addr} {H' H'' : Hp} {o : HO}, Ext L' H' L'' H'' → Dd ∉ L' → H' Dd = some o → Dd ∉ L'' := fun {L' L'' H' H'' o} e n h hm => by
          obtain ⟨M, eM, hM⟩ := e.pre
          rw [eM] at hm
          rcases List.mem_append.mp hm with hm | hm
          · exact n hm
          · rw [(hM _ hm).2] at h; cases h
        have nD4 := nL e4 nD hD3
        have hD4 := e4.keep Dd _ nD hD3
        have e14 := e13.trans e4
        have ra4 := (ra.ext rs2 e3).ext rs3 e4
        cases k with
        | true =>
          rw [if_pos rfl] at p4 ⊢
          refine ⟨ρ1, L4, s4, re.ext rs3 e4, rs4, (Post.bindN (rep := RepV X.K) p4).mono fun y H5 ⟨dy, L5, s5, e5, rs5, ry, p5⟩ => ?_⟩
          split at p5
          · rename_i hlen
            have nD5 := nL e5 nD4 hD4
            have hD5 := e5.keep Dd _ nD4 hD4
            have ra5 := ra4.ext rs4 e5
            have e15 := e14.trans e5
            have e16 : Ext L1 H1 L5 (upd H5 Dd (.lst (accV ++ [y]))) := ⟨e15.pre, fun b o hb q => by rw [upd_ne (ne_of_none q hD)]; exact e15.keep b o hb q⟩
            have rs6 : RepS X.z L5 s5 (upd H5 Dd (.lst (accV ++ [y]))) := rs5.beside nD5 hD5
            have hl : accV.length = acc.length := ra5.len.symm
            refine ⟨accV, hD5, by rw [hl]; exact lim_line' hlen, rfl, hlt, L5, s5, acc ++ [dy], accV ++ [y], e16, rs6, nD5, upd_same, (ra5.append (RepVs.cons ry RepVs.nil)).beside hD5, p5⟩
          · exact p5.elim
        | false =>
          rw [if_neg Bool.false_ne_true] at p4 ⊢
          exact ⟨rfl, hlt, L4, s4, acc, accV, e14, rs4, nD4, hD4, ra4, p4⟩
      · exact p.elim
    · exact p.elim
  · have hi' : i = src.items.length := by omega
    subst hi'
    rw [List.drop_length] at p
    unfold lcF at p
    split at p
    · rename_i ok
      exact .inl ⟨st.stop L2 s2 H2 e2 rs2 ok, (Post.from_ e2 p) _ L2 H2 Ext.refl rs2 ⟨Dd, accV, rfl, hD2, hD0, nD, ra⟩⟩
    · exact p.elim
theorem l_lc (hc : X.calm = true) (hN : X.N.Nodup) (hi : PI X tg iter (tIt X W mi)) (ok : BlkOk X.N X.env.scope scope own)
    (hg : ∀ (s : Shared) (H : Hp) (C : Addr) (cl : List (Str × Addr)) (fp : List Addr), PG (X.blk s H scope (compEnvC scope cl C X.env) fp) tg (tGw X.K is g)) (ht : ∀ (s : Shared) (H : Hp) (C : Addr) (cl : List (Str × Addr)) (fp : List Addr), PTs (X.blk s H scope (compEnvC scope cl C X.env) fp) ifs (tT (X.blk s H scope (compEnvC scope cl C X.env) fp) W0 tt))
    (he : ∀ (s : Shared) (H : Hp) (C : Addr) (cl : List (Str × Addr)) (fp : List Addr), PE (X.blk s H scope (compEnvC scope cl C X.env) fp) elt (tE (X.blk s H scope (compEnvC scope cl C X.env) fp) W0 te)) (hsub : ∀ i ∈ is, i ∈ own.map (·.2)) (hs : ∀ x, foldedSetIterable iter X.env x = pure x := by intro _; rfl) :
    PE X (.ListComp elt [⟨tg, iter, ifs, 0⟩] scope pos) (tL X W (mLc mi g (own.map (·.2)) tt te)) := (pe_lc (g := tGw X.K is g) (tt := tT X W0 tt) (te := tE X W0 te) hc hN hi ok hg ht he hs).imp (lc_imp hsub)
/-- name = [..] -/
theorem s_setLc (i : Nat) {y : Str} {py spos : Pos} (hc : X.calm = true) (hN : X.N.Nodup) (hi : PI X tg iter (tIt X W mi)) (ok : BlkOk X.N X.env.scope scope own)
    (hg : ∀ (s : Shared) (H : Hp) (C : Addr) (cl : List (Str × Addr)) (fp : List Addr), PG (X.blk s H scope (compEnvC scope cl C X.env) fp) tg (tGw X.K is g)) (ht : ∀ (s : Shared) (H : Hp) (C : Addr) (cl : List (Str × Addr)) (fp : List Addr), PTs (X.blk s H scope (compEnvC scope cl C X.env) fp) ifs (tT (X.blk s H scope (compEnvC scope cl C X.env) fp) W0 tt))
    (he : ∀ (s : Shared) (H : Hp) (C : Addr) (cl : List (Str × Addr)) (fp : List Addr), PE (X.blk s H scope (compEnvC scope cl C X.env) fp) elt (tE (X.blk s H scope (compEnvC scope cl C X.env) fp) W0 te)) (hsub : ∀ i ∈ is, i ∈ own.map (·.2))
    (hsw : swapsWith (.ListComp elt [⟨tg, iter, ifs, 0⟩] scope pos) (some (.Name y py)) spos.line X.env = pure true) (hy : X.N[i]? = some y := by rfl) (hyl : X.env.scope.names.lookup y = some .local := by rfl) (hs : ∀ x, foldedSetIterable iter X.env x = pure x := by intro _; rfl) :
    PS X (.Assign [.Name y py] (.ListComp elt [⟨tg, iter, ifs, 0⟩] scope pos) spos) (tS X W (mSet i (mRef (mLc mi g (own.map (·.2)) tt te)))) := (ps_setLc (g := tGw X.K is g) (tt := tT X W0 tt) (te := tE X W0 te) hc hN hy hyl hsw hi ok hg ht he hs).imp fun D σ H ⟨ρ, L, s, h1, h2, h3⟩ => by
  refine lc_imp (W := W) hsub σ H _ ⟨ρ, L, s, h1, h2, ?_⟩
  unfold mSet mRef at h3
  cases q : mLc mi g (own.map (·.2)) tt te ρ s with
  | ok ds s' =>
    rw [q] at h3
    intro b L' H' e rs rt
    obtain ⟨L2, k1, k2, k3⟩ := join_L h2 e rs rt
    exact h3 _ L2 H' k1 k2 ((h1.ext h2 k1).set i k3)
  | exc c s' => rw [q] at h3; exact fun cls L' H' hc e rs => h3 cls σ L' H' hc e rs (h1.ext h2 e)
  | bad => rw [q] at h3; exact h3
end
end Z

set_option Elab.async false
set_option linter.all false
set_option maxRecDepth 100000
set_option maxHeartbeats 4000000
/-! ZIx: x[i], x[i] = v, {}. -/
namespace Z
open PySem L2
def gIxO (o : O) (s : S) : D → R D
  | .int k => R.of (o.items.bind fun ds => atI ds k) s
  | _ => .bad
/-- x[i] -/
def gIx (x i : D) (s : S) : R D := match x with
  | .tup ds => match i with
    | .int k => R.of (atI ds k) s
    | _ => .bad
  | .str z => match i with
    | .int k => if z.length ≤ lim then R.of ((atI z.cps.toList k).map fun c => .str ⟨#[c]⟩) s else .bad
    | _ => .bad
  | .ref n => match s[n]? with
    | some (.dct t _ kvs) => if keyOk t i then R.of (kget kvs i) s else .bad
    | some o => gIxO o s i
    | none => .bad
  | _ => .bad
def rIxZ (z : Cz) : R2 := rZ z gIx
section
variable {z : Cz} {L : List Addr} {H : Hp}
theorem atI_V {ds : List D} {vs : List V} {k : Int} {d : D} (h : RepVs z.K L H ds vs) (e : atI ds k = some d) : ∃ v, atI vs k = some v ∧ RepV z.K L H d v := by
  unfold atI at e ⊢
  rw [← h.len]
  obtain ⟨j, h1, h2⟩ := Option.bind_eq_some_iff.mp e
  obtain ⟨v, h3, h4⟩ := h.get h2
  exact ⟨v, by rw [h1]; exact h3, h4⟩
end
section
variable {X : Cx}
theorem ix_Z (hu : X.A.units + 65 < cLine) : IxR X (rIxZ X.z) := by
  intro value slice pins s σ H x y v u Q I rx ry ⟨L, st, dx, dy, rs, rvx, rvy, p⟩ hs
  cases dx with
  | tup ds =>
    obtain ⟨a, vs, rfl, ht, hv⟩ := rvx
    cases dy with
    | int k =>
      cases rvy
      have p' : Post X.z (RepV X.K) (fun _ _ _ _ => True) [] L H (R.of (atI ds k) st) Q := p
      cases e : atI ds k with
      | some d =>
        rw [e] at p'
        obtain ⟨w, hw, rw'⟩ := atI_V (z := X.z) hv e
        exact ix_tup value slice pins s σ H _ _ v u Q I rx ry ⟨a, vs, k, w, rfl, rfl, ht, hw, p'.done rs rw'⟩ hs
      | none => rw [e] at p'; exact p'.elim
    | _ => exact p.elim
  | str z =>
    cases rvx
    cases dy with
    | int k =>
      cases rvy
      have p' : Post X.z (RepV X.K) (fun _ _ _ _ => True) [] L H (if z.length ≤ lim then R.of ((atI z.cps.toList k).map fun c => D.str ⟨#[c]⟩) st else .bad) Q := p
      split at p'
      · rename_i hl
        cases e : atI z.cps.toList k with
        | some c => rw [e] at p'; exact ix_str value slice pins s σ H _ _ v u Q I rx ry ⟨z, k, c, rfl, rfl, lim_line hl, e, p'.done rs rfl⟩ hs
        | none => rw [e] at p'; exact p'.elim
      · exact p'.elim
    | _ => exact p.elim
  | ref n =>
    obtain ⟨a, ha, rfl⟩ := rvx
    have hv : v = Value.ref a := rx
    subst hv
    have p' : Post X.z (RepV X.K) (fun _ _ _ _ => True) [] L H (match st[n]? with
      | some (.dct t _ kvs) => if keyOk t dy then R.of (kget kvs dy) st else .bad
      | some o => gIxO o st dy
      | none => .bad) Q := p
    split at p'
    · rename_i t lk kvs e
      obtain ⟨uo, o, h1, h2, h3⟩ := rs.at_ _ _ _ ha e
      have hrd := lk_rd h1 h2
      split at p'
      · rename_i hk
        cases e2 : kget kvs dy with
        | none => rw [e2] at p'; exact p'.elim
        | some d =>
          rw [e2] at p'
          cases t with
          | false =>
            obtain ⟨es, rfl, q1, q2⟩ := h3
            obtain ⟨k, ek⟩ := Option.isSome_iff_exists.mp hk
            have er := leaf_D ek
            subst er
            have f := find_leaf (X := X) (k := k) q1 q2
            rw [e2] at f
            cases e3 : valV es k with
            | none => rw [e3] at f; exact f.elim
            | some w =>
              rw [e3] at f
              have hy : y = kV k := by cases k <;> cases rvy <;> rfl
              have g : DGet H a y (some w) := .inl ⟨es, k, hrd, hy, e3.symm⟩
              have q := p'.done rs f
              obtain ⟨_, _, vs, rel, dd⟩ := dk_rd I.hok hrd
              rw [hy] at ry
              obtain ⟨w', hw, rw'⟩ := RelO.some_of (v := w) (o := valueAt vs k) (by rw [← e3]; exact rel.val k)
              exact PyProof.Rows.subscriptTail_builtinR (x := w') dd.typeIs PySem.F.slot_dict_getitem.lookup (wpAny_getItem_of (kV_is ry) dd.mapOf hw ⟨rfl, w, H, I.tok _, rw', q⟩) hs
          | true =>
            obtain ⟨es, rfl, q1, q2, q3, q4⟩ := h3
            unfold keyOk at hk
            simp only [Bool.and_eq_true] at hk
            obtain ⟨hk1, hk2⟩ := hk
            split at hk1
            · split at hk2
              · rename_i k ek
                obtain ⟨b, rfl, rb⟩ := nest_key (X := X) rfl ek rvy
                have hu' : u = Value.ref b := ry
                subst hu'
                have f := find_nest (X := X) (k := k) q1 q4
                rw [nk_D ek, e2] at f
                cases e3 : (es.find? fun e => decide (e.1 = k)).map (·.2.2) with
                | none => rw [e3] at f; exact f.elim
                | some w =>
                  rw [e3] at f
                  obtain ⟨h5, h6, xs, h7, h8⟩ := dN_at (L := L) I hrd (reps_each q1 q2) q3
                  have hr := paired_find (k := k) h7
                  rw [e3] at hr
                  obtain ⟨w', hw, rw'⟩ := RelO.some_of hr
                  obtain ⟨p2, hp, hp2⟩ := Option.map_eq_some_iff.mp hw
                  have hkey : (nestedKind X.prog X.w).is s.heap k b := ⟨nested_of I k _ _ rb rfl, of_decide_eq_true hk2⟩
                  have q := p'.done rs f
                  exact PyProof.Rows.subscriptTail_builtinR (x := p2.2) h8.typeIs PySem.F.slot_dict_getitem.lookup (wpAny_getItem_heap (room8 (by omega)) hkey h8 hp ⟨rfl, w, H, I.tok _, by rw [hp2]; exact rw', q⟩) hs
              · cases hk2
            · cases hk1
      · exact p'.elim
    · rename_i o no e
      cases dy with
      | int k =>
        cases rvy
        have p' : Post X.z (RepV X.K) (fun _ _ _ _ => True) [] L H (R.of (o.items.bind fun ds => atI ds k) st) Q := p'
        cases ei : o.items with
        | none => rw [ei] at p'; exact p'.elim
        | some ds =>
          rw [ei] at p'
          have p' : Post X.z (RepV X.K) (fun _ _ _ _ => True) [] L H (R.of (atI ds k) st) Q := p'
          have el : lstAt st n = some ds := by unfold lstAt; rw [e]; exact ei
          obtain ⟨vs, hq, hv⟩ := lst_V rs ha el
          cases e2 : atI ds k with
          | some d =>
            rw [e2] at p'
            obtain ⟨w, hw, rw'⟩ := atI_V (z := X.z) hv e2
            exact ix_list value slice pins s σ H (.ref a) _ (.ref a) u Q I (show RelV (.ref a) (Value.ref a) from rfl) ry ⟨a, vs, k, w, rfl, rfl, hq, hw, p'.done rs rw'⟩ hs
          | none => rw [e2] at p'; exact p'.elim
      | _ => exact p'.elim
    · exact p'.elim
  | _ => exact p.elim
variable {W : WX} {a b : Expr} {ma mb : M D} {pos : Pos}
theorem e_ix (hu : X.A.units + 65 < cLine) (ha : PE X a (tE X W ma)) (hb : PE X b (tE X W mb)) (hs : PlainIx b := by exact fun _ _ => rfl) : PE X (.Subscript a b pos) (tE X W (mBin gIx ma mb)) :=
  (pe_ix (ix_Z hu) ha hb hs).imp fun σ H Q ⟨ρ, L, s, h1, h2, h3⟩ => ⟨ρ, L, s, h1, h2, (Post.bind (rep := RepV X.K) h3).mono fun v1 H1 ⟨d1, L1, s1, e1, rs1, rv1, p1⟩ =>
    ⟨ρ, L1, s1, h1.ext h2 e1, rs1, (Post.bind (rep := RepV X.K) p1).mono fun v2 H2 ⟨d2, L2, s2, e2, rs2, rv2, p2⟩ => (f_Z : OpF X.z gIx (rZ X.z gIx)) W σ L2 s2 H2 d1 d2 v1 v2 Q rs2 (rv1.ext rs1 e2) rv2 p2⟩⟩
/-- x[i] of a list that is not the store's -/
def mIxL (ml : M (List D)) (mi : M D) : M D := fun ρ s => (ml ρ s).bind fun ds s1 => (mi ρ s1).bind fun i s2 => match i with
  | .int k => R.of (atI ds k) s2
  | _ => .bad
theorem e_ixL {ml : M (List D)} (ha : PE X a (tL X W ml)) (hb : PE X b (tE X W mb)) (hs : PlainIx b := by exact fun _ _ => rfl) : PE X (.Subscript a b pos) (tE X W (mIxL ml mb)) :=
  (pe_ix ix_list ha hb hs).imp fun σ H Q ⟨ρ, L, s, h1, h2, h3⟩ => ⟨ρ, L, s, h1, h2, (Post.bind (rep := RTmp X.K H) h3).mono fun v1 H1 ⟨ds, L1, s1, e1, rs1, rv1, p1⟩ =>
    ⟨ρ, L1, s1, h1.ext h2 e1, rs1, (Post.bind (rep := RepV X.K) p1).mono fun v2 H2 ⟨d2, L2, s2, e2, rs2, rv2, p2⟩ => by
      obtain ⟨l, vs, rfl, k1, k2, k3, k4⟩ := rv1
      cases d2 with
      | int k =>
        cases rv2
        have p' : Post X.z (RepV X.K) W σ L2 H2 (R.of (atI ds k) s2) Q := p2
        cases e : atI ds k with
        | some d =>
          rw [e] at p'
          obtain ⟨w, hw, rw'⟩ := atI_V (z := X.z) (k4.ext rs1 e2) e
          exact ⟨l, vs, k, w, rfl, rfl, SqL.of (e2.keep l _ k3 k1), hw, p'.done rs2 rw'⟩
        | none => rw [e] at p'; exact p'.elim
      | _ => exact p2.elim⟩⟩
end
/-! ### x[i] = v -/
def gPutO (o : O) (i v : D) : Option O := match o with
  | .lst ds => match i with
    | .int k => (ixN ds.length k).map fun j => .lst (ds.set j v)
    | _ => none
  | .dct t false kvs => if keyOk t i ∧ kvs.length < lim then some (.dct t false (kput kvs i v)) else none
  | _ => none
def gPut (x i v : D) (s : S) : Option S := match x with
  | .ref n => s[n]?.bind fun o => (gPutO o i v).map fun o' => s.set n o'
  | _ => none
section
variable {z : Cz} {L : List Addr} {H : Hp}
theorem kput_len (kvs : List (D × D)) (k v : D) : (kput kvs k v).length ≤ kvs.length + 1 := by
  unfold kput
  split <;> simp
/-- the entries behind a store -/
theorem put_keys {α κ : Type} [DecidableEq κ] (f : κ → D) (hf : ∀ a b, f a = f b → a = b) (ky : α → κ) (up : α → α) (nw : α) (k : κ) (hup : ∀ e, ky (up e) = ky e) (hnw : ky nw = k) (d : D) {kvs : List (D × D)} {es : List α} (e1 : kvs.map (·.1) = es.map (fun e => f (ky e))) :
    (kput kvs (f k) d).map (·.1) = (if (es.any fun e => decide (ky e = k)) = true then es.map (fun e => if ky e = k then up e else e) else es ++ [nw]).map (fun e => f (ky e)) := by
  unfold kput
  rw [any_rel f hf ky kvs es e1 k]
  split
  · rw [repl_keys, e1, List.map_map]
    refine List.map_congr_left fun e _ => ?_
    show f (ky e) = f (ky (if ky e = k then up e else e))
    split
    · rw [hup]
    · rfl
  · rw [List.map_append, List.map_append, e1]
    simp [hnw]
theorem put_vals {α κ : Type} [DecidableEq κ] (f : κ → D) (hf : ∀ a b, f a = f b → a = b) (ky : α → κ) (vl : α → V) (up : α → α) (nw : α) (k : κ) {d : D} {v : V} (rd : RepV z.K L H d v) (hup : ∀ e, vl (up e) = v) (hnw : vl nw = v) {kvs : List (D × D)} {es : List α}
    (e1 : kvs.map (·.1) = es.map (fun e => f (ky e))) (e2 : RepVs z.K L H (kvs.map (·.2)) (es.map vl)) :
    RepVs z.K L H ((kput kvs (f k) d).map (·.2)) ((if (es.any fun e => decide (ky e = k)) = true then es.map (fun e => if ky e = k then up e else e) else es ++ [nw]).map vl) := by
  unfold kput
  rw [any_rel f hf ky kvs es e1 k]
  split
  · have go : ∀ (kvs : List (D × D)) (es : List α), kvs.map (·.1) = es.map (fun e => f (ky e)) → RepVs z.K L H (kvs.map (·.2)) (es.map vl) →
        RepVs z.K L H ((kvs.map fun p => if p.1 = f k then (p.1, d) else p).map (·.2)) ((es.map (fun e => if ky e = k then up e else e)).map vl) := by
      intro kvs
      induction kvs with
      | nil => intro es h1 h2; cases es with
        | nil => exact RepVs.nil
        | cons e es => simp at h1
      | cons p kvs ih => intro es h1 h2; cases es with
        | nil => simp at h1
        | cons e es =>
          simp only [List.map_cons, List.cons.injEq] at h1
          obtain ⟨w, r, q1, q2, q3⟩ := h2
          simp only [List.map_cons, List.cons.injEq] at q1
          obtain ⟨rfl, rfl⟩ := q1
          refine ⟨_, _, rfl, ?_, ih es h1.2 q3⟩
          show RepV z.K L H (if p.1 = f k then (p.1, d) else p).2 (vl (if ky e = k then up e else e))
          by_cases c : ky e = k
          · have c' : p.1 = f k := by rw [h1.1, c]
            rw [if_pos c, if_pos c']
            rw [hup]; exact rd
          · have c' : ¬ p.1 = f k := fun z => c (hf _ _ (by rw [← h1.1, z]))
            rw [if_neg c, if_neg c']
            exact q2
    exact go kvs es e1 e2
  · rw [List.map_append, List.map_append]
    exact e2.append ⟨_, _, rfl, by rw [hnw]; exact rd, rfl⟩
end
section
variable {X : Cx}
/-- a reading that is the function itself -/
def rPutZ (z : Cz) : TSet := fun o i v H Q => ∃ L st do_ di dv, RepS z L st H ∧ RepV z.K L H do_ o ∧ RepV z.K L H di i ∧ RepV z.K L H dv v ∧ ∃ st', gPut do_ di dv st = some st' ∧ ∀ H', Ext L H L H' → RepS z L st' H' → Q H'
theorem any_find {α : Type} (p : α → Bool) : ∀ es : List α, es.any p = (es.find? p).isSome
  | [] => rfl
  | e :: es => by
    rw [List.any_cons, List.find?_cons]
    cases p e with
    | true => rfl
    | false => exact any_find p es
/-- the table's entries behind a store -/
theorem paired_stored {k : NestedKey} {b : Addr} {w : V} {r : Value} (rw_ : RelV w r) {es : List (NestedKey × Addr × V)} {xs : List (NestedKey × Addr × Value)} (h : Paired (fun (p : NestedKey × Addr × V) (q : NestedKey × Addr × Value) => p.1 = q.1 ∧ p.2.1 = q.2.1 ∧ RelV p.2.2 q.2.2) es xs) :
    Paired (fun (p : NestedKey × Addr × V) (q : NestedKey × Addr × Value) => p.1 = q.1 ∧ p.2.1 = q.2.1 ∧ RelV p.2.2 q.2.2) (if (es.any fun e => decide (e.1 = k)) = true then es.map (fun e => if e.1 = k then (e.1, e.2.1, w) else e) else es ++ [(k, b, w)]) (storedH xs k b r) := by
  have hs : (es.any fun e => decide (e.1 = k)) = (atKey xs k).isSome := by
    have := (paired_find (k := k) h).isSome_eq
    rw [Option.isSome_map, Option.isSome_map] at this
    rw [any_find, this]
  unfold storedH
  rw [hs]
  split
  · have go : ∀ {es : List (NestedKey × Addr × V)} {xs : List (NestedKey × Addr × Value)}, Paired (fun (p : NestedKey × Addr × V) (q : NestedKey × Addr × Value) => p.1 = q.1 ∧ p.2.1 = q.2.1 ∧ RelV p.2.2 q.2.2) es xs →
        Paired (fun (p : NestedKey × Addr × V) (q : NestedKey × Addr × Value) => p.1 = q.1 ∧ p.2.1 = q.2.1 ∧ RelV p.2.2 q.2.2) (es.map (fun e => if e.1 = k then (e.1, e.2.1, w) else e)) (xs.map (putAt k r)) := by
      intro es xs h
      induction h with
      | nil => exact .nil
      | @cons p q ps qs hq t ih =>
        refine .cons ?_ ih
        show (if p.1 = k then (p.1, p.2.1, w) else p).1 = (if q.1 = k then (q.1, q.2.1, r) else q).1 ∧ (if p.1 = k then (p.1, p.2.1, w) else p).2.1 = (if q.1 = k then (q.1, q.2.1, r) else q).2.1 ∧ RelV (if p.1 = k then (p.1, p.2.1, w) else p).2.2 (if q.1 = k then (q.1, q.2.1, r) else q).2.2
        by_cases c : p.1 = k
        · rw [if_pos c, if_pos (hq.1.symm.trans c)]
          exact ⟨hq.1, hq.2.1, rw_⟩
        · rw [if_neg c, if_neg fun z => c (hq.1.trans z)]
          exact hq
    exact go h
  · have go : ∀ {es : List (NestedKey × Addr × V)} {xs : List (NestedKey × Addr × Value)}, Paired (fun (p : NestedKey × Addr × V) (q : NestedKey × Addr × Value) => p.1 = q.1 ∧ p.2.1 = q.2.1 ∧ RelV p.2.2 q.2.2) es xs →
        Paired (fun (p : NestedKey × Addr × V) (q : NestedKey × Addr × Value) => p.1 = q.1 ∧ p.2.1 = q.2.1 ∧ RelV p.2.2 q.2.2) (es ++ [(k, b, w)]) (xs ++ [(k, b, r)]) := by
      intro es xs h
      induction h with
      | nil => exact .cons ⟨rfl, rfl, rw_⟩ .nil
      | @cons p q ps qs hq t ih => exact .cons hq ih
    exact go h
theorem ext_same {L : List Addr} {H H' : Hp} {a : Addr} (hL : a ∈ L) (h : ∀ b, b ≠ a → H' b = H b) : Ext L H L H' :=
  ⟨⟨[], by simp⟩, fun b o hb q => by rw [h b fun e => hb (e ▸ hL)]; exact q⟩
theorem set_Z (hu : X.A.units + 65 < cLine) : PSet X (rPutZ X.z) := by
  intro pins s σ H o i v ov iv u Q I ro ri rv ⟨L, st, do_, di, dv, rs, rvo, rvi, rvv, st', hp, hQ⟩
  cases do_ with
  | ref n =>
    obtain ⟨a, ha, rfl⟩ := rvo
    have ho : ov = Value.ref a := ro
    subst ho
    obtain ⟨ob, hob, hp⟩ := Option.bind_eq_some_iff.mp hp
    obtain ⟨ob', hg, hp⟩ := Option.map_eq_some_iff.mp hp
    subst hp
    have hm : a ∈ L := List.mem_of_getElem? ha
    cases ob with
    | lst ds =>
      obtain ⟨vs, h1, h2⟩ := rs.at_ _ _ _ ha hob
      cases di with
      | int k =>
        cases rvi
        obtain ⟨j, hj, hg⟩ := Option.map_eq_some_iff.mp hg
        subst hg
        refine set_list pins s σ H (.ref a) _ v (.ref a) iv u Q I (show RelV (.ref a) (Value.ref a) from rfl) ri rv ⟨a, vs, k, j, rfl, rfl, h1, by rw [← h2.len]; exact hj, ?_⟩
        refine hQ _ (Ext.write ha) (rs.write ha ⟨_, upd_same, ((h2.set j rvv).ext rs (Ext.write ha))⟩)
      | _ => cases hg
    | dct t lk kvs =>
      cases lk with
      | true => cases hg
      | false =>
        have hg : (if keyOk t di ∧ kvs.length < lim then some (O.dct t false (kput kvs di dv)) else none) = some ob' := hg
        split at hg
        · rename_i hk
          cases hg
          obtain ⟨hk, hl⟩ := hk
          obtain ⟨uo, o, h1, h2, h3⟩ := rs.at_ _ _ _ ha hob
          have h2 : uo = o := h2
          subst h2
          cases t with
          | false =>
            obtain ⟨es, rfl, q1, q2⟩ := h3
            obtain ⟨k, ek⟩ := Option.isSome_iff_exists.mp hk
            have er := leaf_D ek
            subst er
            have hy : i = kV k := by cases k <;> cases rvi <;> rfl
            have hlen : es.length < sizeLine := by
              have := congrArg List.length q1
              rw [List.length_map, List.length_map] at this
              rw [← this]; exact lim_line' hl
            refine d_setItem (by omega) I (H' := upd H a (.dK (putK es k v))) (.inl ⟨es, k, h1, hy, hlen, rfl⟩) ri rv fun s' I' => ⟨_, I', hQ _ (Ext.write ha) (rs.write ha ?_)⟩
            refine ⟨_, _, upd_same, rfl, putK es k v, rfl, ?_, ?_⟩
            · exact put_keys keyD (fun _ _ h => keyD_inj h) (·.1) (fun e => (e.1, v)) (k, v) k (fun _ => rfl) rfl dv q1
            · exact (put_vals (z := X.z) keyD (fun _ _ h => keyD_inj h) (·.1) (·.2) (fun e => (e.1, v)) (k, v) k rvv (fun _ => rfl) rfl q1 q2).ext rs (Ext.write ha)
          | true =>
            obtain ⟨es, rfl, q1, q2, q3, q4⟩ := h3
            unfold keyOk at hk
            simp only [Bool.and_eq_true] at hk
            obtain ⟨hk1, hk2⟩ := hk
            split at hk1
            · split at hk2
              · rename_i k ek
                obtain ⟨b, rfl, rb⟩ := nest_key (X := X) rfl ek rvi
                have hu' : iv = Value.ref b := ri
                subst hu'
                obtain ⟨h5, h6, xs, h7, h8⟩ := dN_at (L := L) I (.inl h1) (reps_each q1 q2) q3
                have hkey : (nestedKind X.prog X.w).is s.heap k b := ⟨nested_of I k _ _ rb rfl, of_decide_eq_true hk2⟩
                have hz : xs.length ≤ sizeLine := by rw [← h7.length]; exact h5
                have hlen : es.length < lim := by
                  have := congrArg List.length q1
                  rw [List.length_map, List.length_map] at this
                  rw [← this]; exact hl
                refine wpAny_setItem_heap (hsz := hz) (room8 (by omega)) hkey h8 fun h' dd' hs => ?_
                obtain ⟨q, es', ep, hq, hq2, hq3, hq4, hq5, hq6⟩ := dd'
                have pr := paired_stored (k := k) (b := b) rv h7
                refine ⟨upd H a (dN X.prog X.w a (if (es.any fun e => decide (e.1 = k)) = true then es.map (fun e => if e.1 = k then (e.1, e.2.1, v) else e) else es ++ [(k, b, v)])), ?_, hQ _ (Ext.write ha) (rs.write ha ?_)⟩
                · refine d_write I (by rw [h1]; exact True.intro) hs ⟨q, hq⟩ ⟨⟨?_, h6, _, pr, q, es', ep, hq, hq2, hq3, hq4, hq6⟩, ⟨q, hq⟩, ?_⟩
                  · split
                    · rw [List.length_map]; exact h5
                    · rw [List.length_append]; exact lim_line (by simp only [List.length_cons, List.length_nil]; omega)
                  · rintro g1 g2 ⟨z1, z2, xs2, z3, o2, es2, ep2, z4, z5⟩ hkk
                    exact ⟨z1, z2, xs2, z3, o2, es2, ep2, hkk _ z4, z5⟩
                · refine ⟨_, _, upd_same, rfl, _, rfl, ?_, ?_, ?_, ?_⟩
                  · rw [← nk_D ek]
                    exact put_keys nkD (fun _ _ h => nkD_inj h) (·.1) (fun e => (e.1, e.2.1, v)) (k, b, v) k (fun _ => rfl) rfl dv q1
                  · rw [← nk_D ek]
                    have hkk := put_keys nkD (fun _ _ h => nkD_inj h) (·.1) (fun e => (e.1, e.2.1, v)) (k, b, v) k (fun _ => rfl) rfl dv q1
                    rw [hkk]
                    refine RepVs.ext rs (Ext.write ha) ?_
                    split
                    · rw [List.map_map, List.map_map]
                      have e1 : (es.map ((fun e : NestedKey × Addr × V => nkD e.1) ∘ fun e => if e.1 = k then (e.1, e.2.1, v) else e)) = es.map fun e => nkD e.1 := List.map_congr_left fun e _ => by
                        show nkD (if e.1 = k then (e.1, e.2.1, v) else e).1 = nkD e.1
                        split <;> rfl
                      have e2 : (es.map ((fun e : NestedKey × Addr × V => V.ref e.2.1) ∘ fun e => if e.1 = k then (e.1, e.2.1, v) else e)) = es.map fun e => V.ref e.2.1 := List.map_congr_left fun e _ => by
                        show V.ref (if e.1 = k then (e.1, e.2.1, v) else e).2.1 = V.ref e.2.1
                        split <;> rfl
                      rw [e1, e2, ← q1]
                      exact q2
                    · rw [List.map_append, List.map_append, ← q1]
                      exact q2.append ⟨_, _, rfl, rb, rfl⟩
                  · intro e he
                    split at he
                    · obtain ⟨e', he', rfl⟩ := List.mem_map.mp he
                      have := q3 e' he'
                      split <;> exact this
                    · rcases List.mem_append.mp he with he | he
                      · exact q3 e he
                      · rw [List.mem_singleton.mp he]; exact of_decide_eq_true hk2
                  · rw [← nk_D ek]
                    exact (put_vals (z := X.z) nkD (fun _ _ h => nkD_inj h) (·.1) (·.2.2) (fun e => (e.1, e.2.1, v)) (k, b, v) k rvv (fun _ => rfl) rfl q1 q4).ext rs (Ext.write ha)
              · cases hk2
            · cases hk1
        · cases hg
  | _ => cases hp
variable {W : WX} {a b : Expr} {ma mb : M D} {pos : Pos}
/-- the target a[b] -/
def gSb (ma mb : M D) : G := fun d ρ s => (ma ρ s).bind fun x s1 => (mb ρ s1).bind fun i s2 => match gPut x i d s2 with
  | some s3 => .ok ρ s3
  | none => .bad
theorem g_sub (hu : X.A.units + 65 < cLine) (ha : PE X a (tE X W ma)) (hb : PE X b (tE X W mb)) (hh : ∀ v, assign (.Subscript a b pos) X.env v = (do
      let ov ← holding [v] (eval a X.env)
      let iv ← holding [v, ov] (eval b X.env)
      standAt pos
      holding [v, ov, iv] (setItem ov iv v)
      release [v, ov, iv] []) := by intro _; rfl) : PG X (.Subscript a b pos) (tGt X W (gSb ma mb)) := (pg_sub ha hb (set_Z hu) hh).imp fun v σ H Q ⟨ρ, L, s, d, h1, h2, h3, h4⟩ => by
  unfold gSb at h4
  refine ⟨ρ, L, s, h1, h2, (Post.bind (rep := RepV X.K) h4).mono fun o H1 ⟨d1, L1, s1, e1, rs1, rv1, p1⟩ => ⟨ρ, L1, s1, h1.ext h2 e1, rs1, (Post.bind (rep := RepV X.K) p1).mono fun i H2 ⟨d2, L2, s2, e2, rs2, rv2, p2⟩ => ?_⟩⟩
  split at p2
  · rename_i s3 hp
    refine ⟨L2, s2, d1, d2, d, rs2, rv1.ext rs1 e2, rv2, (h3.ext h2 e1).ext rs1 e2, s3, hp, fun H3 e3 rs3 => ?_⟩
    exact p2 σ L2 H3 e3 rs3 (((h1.ext h2 e1).ext rs1 e2).ext rs2 e3)
  · exact p2.elim
/-- {} -/
theorem e_dct (t : Bool) : PE X (.Dict [] [] pos) (tE X W (mDct t)) := by
  cases t with
  | false => exact pe_dnewK.imp fun σ H Q ⟨ρ, L, s, h1, h2, h3⟩ p hp => h3 _ (L ++ [p]) _ (Ext.new h2 hp) (h2.new hp ⟨_, _, upd_same, rfl, [], rfl, rfl, RepVs.nil⟩) ⟨p, by rw [← h2.len]; simp, rfl⟩
  | true =>
    refine ⟨fun pins s σ H Q I ⟨ρ, L, st, h1, h2, h3⟩ => wpAny_Dict_empty ?_⟩
    have hp : H s.heap.objs.size = none := I.hok.fresh (Nat.le_refl _)
    obtain ⟨z1, z2, z3⟩ := dt_empty (P := X.prog) (w := X.w) (H := H) s.heap I.big
    refine ⟨.ref s.heap.objs.size, upd H s.heap.objs.size (dN X.prog X.w s.heap.objs.size []), I.laid (t' := s.toks) (fun _ _ q => Heap.get?_push_of_some _ q) (Nat.le_refl _) ?_, rfl, ?_⟩
    · refine ⟨⟨z1, z2, [], .nil, _, #[], 0, Heap.get?_push_size _ rfl, ⟨rfl, rfl, rfl⟩, rfl, rfl, List.nodup_nil⟩, ⟨_, Heap.get?_push_size _ rfl⟩, ?_⟩
      rintro g1 g2 ⟨z1, z2, xs2, z3, o2, es2, ep2, z4, z5⟩ hkk
      exact ⟨z1, z2, xs2, z3, o2, es2, ep2, hkk _ z4, z5⟩
    · exact h3 _ (L ++ [_]) _ (Ext.new h2 hp) (h2.new hp ⟨_, _, upd_same, rfl, [], rfl, rfl, RepVs.nil, (fun _ h => by cases h), RepVs.nil⟩) ⟨_, by rw [← h2.len]; simp, rfl⟩
end
end Z

set_option Elab.async false
set_option linter.all false
set_option maxRecDepth 100000
set_option maxHeartbeats 4000000
/-! ZCall: calls: of the program's defs, of what is built in; defs. -/
namespace Z
open PySem L2
/-- what a rule asks of the context -/
structure C (X : Cx) (W : WX) (k : Nat) : Prop where
  tk : Takes X W
  hp : PassesOwn (model X.prog X.w) X.A X.env X.xe
  calm : X.calm = true
  nd : X.N.Nodup
  rm : Room k X.A
theorem C.hu {X : Cx} {W : WX} {k : Nat} (c : C X W k) : X.A.units + 65 < cLine := by have := c.rm.un; omega
theorem C.hu' {X : Cx} {W : WX} {k : Nat} (c : C X W k) : X.A.units + 64 < cLine := by have := c.rm.un; omega
theorem C.blk {X : Cx} {W : WX} {k : Nat} (c : C X W k) (s : Shared) (H : Hp) (scope : Scope) (env : Env) (fp : List Addr) : C (X.blk s H scope env fp) W0 k := ⟨takes0, PassesOwn.never, c.calm, c.nd, c.rm⟩
/-- what a def does -/
abbrev F := List D → S → R D
def spOf (z : Cz) (g : F) : Sp := fun vs H Q E => ∃ L s ds, RepS z L s H ∧ RepVs z.K L H ds vs ∧ Post z (RepV z.K) (fun cls d _ H => E cls d H) [] L H (g ds s) Q
/-- the def x does what g says -/
def Cal (P : Program) (w : World) (K : PySem.W.Frag) (mg : Str → Option Value) (base : Heap) (x : Str) (k : Nat) (g : F) : Prop :=
  ∃ f fd ps, FnOk P w K mg base (L2.CX P w) k f fd ps (spOf ⟨P, w, K, mg⟩ g) ∧ mg x = some (.ref f) ∧ PySem.W.keepIn K (.ref f) = true ∧ Binds K fd ps []
def mCall (g : F) (m : M (List D)) : M D := fun ρ s => (m ρ s).bind g
def mCall0 (g : F) : M D := fun _ s => g [] s
section
variable {X : Cx} {W : WX} {k : Nat} {g : F} {m : M (List D)} {e : Expr} {es : List Expr} {x : Str} {p pos : Pos}
theorem Post.reW {z : Cz} {α β : Type} {rep : Rep α β} {W W' : WX} {σ σ' : St} {L : List Addr} {H : Hp} {r : R α} {Q : β → Hp → Prop} (h : Post z rep W σ L H r Q) (hw : ∀ cls H, W cls none σ H → W' cls none σ' H) : Post z rep W' σ' L H r Q := by
  cases r with
  | ok a s => exact h
  | exc c s => exact fun cls L' H' hc e rs => hw _ _ (h cls L' H' hc e rs)
  | bad => exact h
theorem e_call (h : Cal X.prog X.w X.K X.mg X.base x k g) (c : C X W k) (ha : PA X (e :: es) (tA X W m)) (hg : Gl X x := by rfl) (hdb : (x == ("__debug__" : Str)) = false := by decide) (he : starEach (e :: es) X.env = (false, eval e X.env) :: starEach es X.env := by rfl)
    (hpl : (backTo pos (starEach es X.env)).any (·.1) = false := by rfl) : PE X (.Call (.Name x p) (e :: es) [] pos) (tE X W (mCall g m)) := by
  obtain ⟨f, fd, ps, F, hm, hk, hb⟩ := h
  exact (pe_callSD F c.rm hg hm hk hb .nil (fun σ => passAt c.tk σ) ha hdb he hpl).imp fun σ H Q ⟨ρ, L, s, h1, h2, h3⟩ => ⟨ρ, L, s, h1, h2, (Post.bind (rep := RepVs X.K) h3).mono fun vs H1 ⟨ds, L1, s1, e1, rs1, rv1, p1⟩ => by
    rw [List.append_nil]
    exact ⟨L1, s1, ds, rs1, rv1, p1.reW fun _ _ h => h⟩⟩
theorem e_call0 (h : Cal X.prog X.w X.K X.mg X.base x k g) (c : C X W k) (hg : Gl X x := by rfl) (hdb : (x == ("__debug__" : Str)) = false := by decide) : PE X (.Call (.Name x p) [] [] pos) (tE X W (mCall0 g)) := by
  obtain ⟨f, fd, ps, F, hm, hk, hb⟩ := h
  refine ⟨fun pins s σ H Q I ⟨ρ, L, st, h1, h2, h3⟩ => ?_⟩
  exact wpAny_Call_Name_kw (ld_glob I hg hm (PySem.W.callWith_K0 I.kIn hk (run_fnSD (dvs := []) (us := []) (vs := []) F c.rm hb .nil (passAt c.tk σ) I .nil ⟨L, st, [], h2, RepVs.nil, h3.reW fun _ _ h => h⟩)) hdb)
end
/-! ### defs -/
def runF (n N : Nat) (m : MS) : F := fun ds s => if ds.length = n then
    match m (ds.map some ++ List.replicate (N - n) none) s with
    | some (.nx _, s') => .ok .non s'
    | some (.rt d, s') => .ok d s'
    | some (.xc c _, s') => .exc c s'
    | _ => .bad
  else .bad
section
variable {P : Program} {w : World} {K : PySem.W.Frag} {mg : Str → Option Value} {base : Heap}
theorem cal_0 {x qual : Str} {st : Stmt} {f : Addr} {fd : FuncData} {ps : List Str} (hm : mg x = some (.ref f)) (F : Fun K x qual st f fd) (hb : Binds K fd ps []) : Cal P w K mg base x 0 fun _ _ => .bad :=
  ⟨f, fd, ps, ⟨fun vs H Q E ⟨_, _, _, _, _, h⟩ => h.elim, fun A outer s H args us vs Q E _ _ _ _ ⟨_, _, _, _, _, h⟩ => h.elim⟩, hm, F.kp, hb⟩
theorem start_rep {z : Cz} {L : List Addr} {H : Hp} (N : List Str) : ∀ {ds : List D} {vs : List V}, RepVs z.K L H ds vs → RepE z.K L H (ds.map some ++ List.replicate (N.length - ds.length) none) (L2.start N vs) := by
  intro ds vs h
  have hl := h.len
  refine ⟨by simp [L2.start, hl], fun i d q => ?_⟩
  by_cases hi : i < ds.length
  · rw [List.getElem?_append_left (by simpa using hi), List.getElem?_map] at q
    obtain ⟨d', hd, e⟩ := Option.map_eq_some_iff.mp q
    cases e
    obtain ⟨v, hv, rv⟩ := h.get hd
    refine ⟨v, ?_, rv⟩
    unfold L2.start
    rw [List.getElem?_append_left (by simp; omega), List.getElem?_map, hv]
    rfl
  · rw [List.getElem?_append_right (by simpa using hi)] at q
    rw [List.getElem?_replicate] at q
    split at q
    · cases q
    · cases q
theorem fn_s {x qual : Str} {st : Stmt} {f : Addr} {fd : FuncData} {N ps : List Str} {k n nN : Nat} {m : MS} (F : Fun K x qual st f fd) (S : FnScope N ps (defScope st)) (hn : ps.length = n) (hN : N.length = nN)
    (body : ∀ (cdv : Value) (A : Around) (outer : List Env) (s : Shared) (H : Hp) (E : XK), C (cxOf (L2.CX P w) P w K mg base N qual (defScope st) f cdv A outer s H E) (fun cls d _ H => E cls d H) k →
      PSs (cxOf (L2.CX P w) P w K mg base N qual (defScope st) f cdv A outer s H E) (defBody st) (tS (cxOf (L2.CX P w) P w K mg base N qual (defScope st) f cdv A outer s H E) (fun cls d _ H => E cls d H) m)) :
    FnOk P w K mg base (L2.CX P w) (k + 1) f fd ps (spOf ⟨P, w, K, mg⟩ (runF n nN m)) := by
  subst hn hN
  refine F.okX S (fun vs H Q E ⟨L, s, ds, rs, rv, h⟩ => ?_) (fun cdv A outer s H vs Q E hr ⟨L, st', ds, rs, rv, h⟩ => ⟨_, body cdv A outer s H E ⟨takes_of rfl rfl rfl rfl, passes_of rfl, hr.hd |> fun _ => rfl, S.nd, hr⟩, ?_⟩)
  · unfold runF at h
    split at h
    · rename_i e; rw [← rv.len, e]
    · exact h.elim
  · unfold runF at h
    split at h
    · rename_i e
      refine ⟨_, L, st', start_rep (z := ⟨P, w, K, mg⟩) N rv, rs, ?_⟩
      rw [e]
      match q : m (ds.map some ++ List.replicate (N.length - ps.length) none) st', h with
      | some (.nx ρ, s'), h => exact fun σ' L' H' e rs re => h .non L' H' e rs rfl
      | some (.rt d, s'), h => exact fun v L' H' e rs rv => h v L' H' e rs rv
      | some (.xc c ρ, s'), h => exact fun cls σ' L' H' hc e rs re => h cls L' H' hc e rs
      | some (.bk ρ, s'), h => exact h.elim
      | some (.ct ρ, s'), h => exact h.elim
      | none, h => exact h.elim
    · exact h.elim
theorem cal_s {x qual : Str} {st : Stmt} {f : Addr} {fd : FuncData} {N ps : List Str} {k n nN : Nat} {m : MS} (hm : mg x = some (.ref f)) (F : Fun K x qual st f fd) (hb : Binds K fd ps []) (S : FnScope N ps (defScope st)) (hn : ps.length = n) (hN : N.length = nN)
    (body : ∀ (cdv : Value) (A : Around) (outer : List Env) (s : Shared) (H : Hp) (E : XK), C (cxOf (L2.CX P w) P w K mg base N qual (defScope st) f cdv A outer s H E) (fun cls d _ H => E cls d H) k →
      PSs (cxOf (L2.CX P w) P w K mg base N qual (defScope st) f cdv A outer s H E) (defBody st) (tS (cxOf (L2.CX P w) P w K mg base N qual (defScope st) f cdv A outer s H E) (fun cls d _ H => E cls d H) m)) :
    Cal P w K mg base x (k + 1) (runF n nN m) := ⟨f, fd, ps, fn_s F S hn hN body, hm, F.kp, hb⟩
end
/-! ### what is built in -/
def FnF (z : Cz) (g : F) (r : List V → Hp → VK → Prop) : Prop :=
  ∀ (W : WX) (σ : St) (L : List Addr) (s : S) (H : Hp) (ds : List D) (vs : List V) (Q : VK), RepS z L s H → RepVs z.K L H ds vs → Post z (RepV z.K) W σ L H (g ds s) Q → r vs H Q
/-- of one list or tuple -/
def SqF (z : Cz) (g : F) (r : List V → Hp → VK → Prop) : Prop :=
  ∀ (W : WX) (σ : St) (L : List Addr) (s : S) (H : Hp) (ds : List D) (v : V) (Q : VK), RepS z L s H → RSeq z.K L H ds v → Post z (RepV z.K) W σ L H (g ds s) Q → r [v] H Q
/-- of one list or tuple, a new list -/
def SqT' (z : Cz) (g : List D → Option (List D)) (r : List V → Hp → VK → Prop) : Prop :=
  ∀ (L : List Addr) (s : S) (H : Hp) (ds ds' : List D) (v : V) (Q : VK), RepS z L s H → RSeq z.K L H ds v → g ds = some ds' → (∀ l vs', H l = none → RepVs z.K L H ds' vs' → Q (.ref l) (upd H l (.lst vs'))) → r [v] H Q
def mTmp (g : List D → Option (List D)) (m : M (List D)) : M (List D) := fun ρ s => (m ρ s).bind fun ds s1 => R.of (g ds) s1
section
variable {X : Cx} {W : WX} {g : F} {m : M (List D)} {e : Expr} {es : List Expr} {x : Str} {p pos : Pos} {id T : String} {r : List V → Hp → VK → Prop}
theorem e_blt (hc : CallR X (.builtin id) r) (hG : FnF X.z g r) (hv : bootBuiltins x = some (.builtin id)) (hm : X.mg x = none) (ha : PA X (e :: es) (tA X W m)) (hg : Gl X x := by rfl) (hn : x ≠ "__name__" := by decide) (hdb : (x == ("__debug__" : Str)) = false := by decide)
    (he : starEach (e :: es) X.env = (false, eval e X.env) :: starEach es X.env := by rfl) (hpl : (backTo pos (starEach es X.env)).any (·.1) = false := by rfl) : PE X (.Call (.Name x p) (e :: es) [] pos) (tE X W (mCall g m)) :=
  (pe_callB hc hg hm hv ha hn hdb he hpl).imp fun σ H Q ⟨ρ, L, s, h1, h2, h3⟩ => ⟨ρ, L, s, h1, h2, (Post.bind (rep := RepVs X.K) h3).mono fun vs H1 ⟨ds, L1, s1, e1, rs1, rv1, p1⟩ => hG W σ L1 s1 H1 ds vs Q rs1 rv1 p1⟩
theorem e_ty (hc : CallR X (.type T) r) (hG : FnF X.z g r) (hv : bootBuiltins x = some (.type T)) (hm : X.mg x = none) (ha : PA X (e :: es) (tA X W m)) (hg : Gl X x := by rfl) (hn : x ≠ "__name__" := by decide) (hdb : (x == ("__debug__" : Str)) = false := by decide)
    (he : starEach (e :: es) X.env = (false, eval e X.env) :: starEach es X.env := by rfl) (hpl : (backTo pos (starEach es X.env)).any (·.1) = false := by rfl) : PE X (.Call (.Name x p) (e :: es) [] pos) (tE X W (mCall g m)) :=
  (pe_callTy hc hg hm hv ha hn hdb he hpl).imp fun σ H Q ⟨ρ, L, s, h1, h2, h3⟩ => ⟨ρ, L, s, h1, h2, (Post.bind (rep := RepVs X.K) h3).mono fun vs H1 ⟨ds, L1, s1, e1, rs1, rv1, p1⟩ => hG W σ L1 s1 H1 ds vs Q rs1 rv1 p1⟩
theorem e_bltQ (hc : CallR X (.builtin id) r) (hG : SqF X.z g r) (hv : bootBuiltins x = some (.builtin id)) (hm : X.mg x = none) (ha : PE X e (tQ X W m)) (hg : Gl X x := by rfl) (hn : x ≠ "__name__" := by decide) (hdb : (x == ("__debug__" : Str)) = false := by decide)
    (he : starEach [e] X.env = (false, eval e X.env) :: starEach [] X.env := by rfl) (hpl : (backTo pos (starEach [] X.env)).any (·.1) = false := by rfl) : PE X (.Call (.Name x p) [e] [] pos) (tE X W (mCall g m)) :=
  (pe_callB hc hg hm hv (pa_cons ha pa_nil he) hn hdb he hpl).imp fun σ H Q ⟨ρ, L, s, h1, h2, h3⟩ => ⟨ρ, L, s, h1, h2, (Post.bind (rep := RSeq X.K) h3).mono fun v H1 ⟨ds, L1, s1, e1, rs1, rv1, p1⟩ => hG W σ L1 s1 H1 ds v Q rs1 rv1 p1⟩
theorem e_tyQ (hc : CallR X (.type T) r) (hG : SqF X.z g r) (hv : bootBuiltins x = some (.type T)) (hm : X.mg x = none) (ha : PE X e (tQ X W m)) (hg : Gl X x := by rfl) (hn : x ≠ "__name__" := by decide) (hdb : (x == ("__debug__" : Str)) = false := by decide)
    (he : starEach [e] X.env = (false, eval e X.env) :: starEach [] X.env := by rfl) (hpl : (backTo pos (starEach [] X.env)).any (·.1) = false := by rfl) : PE X (.Call (.Name x p) [e] [] pos) (tE X W (mCall g m)) :=
  (pe_callTy hc hg hm hv (pa_cons ha pa_nil he) hn hdb he hpl).imp fun σ H Q ⟨ρ, L, s, h1, h2, h3⟩ => ⟨ρ, L, s, h1, h2, (Post.bind (rep := RSeq X.K) h3).mono fun v H1 ⟨ds, L1, s1, e1, rs1, rv1, p1⟩ => hG W σ L1 s1 H1 ds v Q rs1 rv1 p1⟩
theorem tmp_imp {g : List D → Option (List D)} (hG : SqT' X.z g r) (σ : St) (H : Hp) (Q : VK) (h : tL X W (mTmp g m) σ H Q) : tCB r (tCons (tQ X W m) tNil) σ H Q := by
  obtain ⟨ρ, L, s, h1, h2, h3⟩ := h
  refine ⟨ρ, L, s, h1, h2, (Post.bind (rep := RSeq X.K) h3).mono fun v H1 ⟨ds, L1, s1, e1, rs1, rv1, p1⟩ => ?_⟩
  cases q : g ds with
  | some ds' =>
    rw [q] at p1
    refine hG L1 s1 H1 ds ds' v Q rs1 rv1 q fun l vs' hl rv' => ?_
    exact p1 _ L1 _ (Ext.other hl) (rs1.other hl) ⟨l, vs', rfl, upd_same, e1.none rs1 hl, rs1.notin hl, rv'.ext rs1 (Ext.other hl)⟩
  | none => rw [q] at p1; exact p1.elim
theorem l_tyQ {g : List D → Option (List D)} (hc : CallR X (.type T) r) (hG : SqT' X.z g r) (hv : bootBuiltins x = some (.type T)) (hm : X.mg x = none) (ha : PE X e (tQ X W m)) (hg : Gl X x := by rfl) (hn : x ≠ "__name__" := by decide) (hdb : (x == ("__debug__" : Str)) = false := by decide)
    (he : starEach [e] X.env = (false, eval e X.env) :: starEach [] X.env := by rfl) (hpl : (backTo pos (starEach [] X.env)).any (·.1) = false := by rfl) : PE X (.Call (.Name x p) [e] [] pos) (tL X W (mTmp g m)) :=
  (pe_callTy hc hg hm hv (pa_cons ha pa_nil he) hn hdb he hpl).imp (tmp_imp hG)
theorem l_bltQ {g : List D → Option (List D)} (hc : CallR X (.builtin id) r) (hG : SqT' X.z g r) (hv : bootBuiltins x = some (.builtin id)) (hm : X.mg x = none) (ha : PE X e (tQ X W m)) (hg : Gl X x := by rfl) (hn : x ≠ "__name__" := by decide) (hdb : (x == ("__debug__" : Str)) = false := by decide)
    (he : starEach [e] X.env = (false, eval e X.env) :: starEach [] X.env := by rfl) (hpl : (backTo pos (starEach [] X.env)).any (·.1) = false := by rfl) : PE X (.Call (.Name x p) [e] [] pos) (tL X W (mTmp g m)) :=
  (pe_callB hc hg hm hv (pa_cons ha pa_nil he) hn hdb he hpl).imp (tmp_imp hG)
end
/-! the functions -/
def gInt : F
  | [.int i], s => .ok (.int i) s
  | [.bl k], s => .ok (.int (if k then 1 else 0)) s
  | _, _ => .bad
def gMax2 : F
  | [.int i, .int j], s => .ok (.int (if j > i then j else i)) s
  | _, _ => .bad
def gMin2 : F
  | [.int i, .int j], s => .ok (.int (if j < i then j else i)) s
  | _, _ => .bad
def gAbs : F
  | [.int i], s => .ok (.int (if i < 0 then -i else i)) s
  | _, _ => .bad
def gStr : F
  | [.int i], s => if i.natAbs.log2 < 1920 then .ok (.str (toString i)) s else .bad
  | [.str x], s => .ok (.str x) s
  | _, _ => .bad
def gLen : F
  | [.str x], s => if x.length ≤ lim then .ok (.int x.length) s else .bad
  | [.tup ds], s => .ok (.int ds.length) s
  | [.ref n], s => match s[n]? with
    | some (.dct false false kvs) => .ok (.int kvs.length) s
    | some o => R.of (o.items.map fun ds => .int ds.length) s
    | none => .bad
  | [.kl _ ns], s => .ok (.int ns.length) s
  | _, _ => .bad
/-- len of a list that is not the store's -/
def gLenQ : F := fun ds s => .ok (.int ds.length) s
def D.bl? : D → Option Bool
  | .bl b => some b
  | _ => none
def D.int? : D → Option Int
  | .int i => some i
  | _ => none
def allB (ds : List D) : Option (List Bool) := ds.mapM D.bl?
def allI (ds : List D) : Option (List Int) := ds.mapM D.int?
def gAll : F := fun ds s => R.of ((allB ds).map fun bs => .bl (bs.all id)) s
def gAny : F := fun ds s => R.of ((allB ds).map fun bs => .bl (bs.any id)) s
def gSum : F := fun ds s => R.of ((allI ds).map fun ns => .int ns.sum) s
section
variable {z : Cz} {L : List Addr} {H : Hp} {s : S}
theorem allB_V : ∀ {ds : List D} {vs : List V} {bs : List Bool}, RepVs z.K L H ds vs → allB ds = some bs → vs = bs.map V.bl
  | [], _, bs, h, e => by
    have e : some [] = some bs := by simpa [allB] using e
    cases e; cases h; rfl
  | d :: ds, _, bs, h, e => by
    obtain ⟨v, t, rfl, h1, h2⟩ := h
    unfold allB at e
    rw [List.mapM_cons] at e
    obtain ⟨b, hb, e⟩ := Option.bind_eq_some_iff.mp e
    obtain ⟨bs', hbs, e⟩ := Option.bind_eq_some_iff.mp e
    cases e
    cases d with
    | bl k => cases hb; cases h1; rw [allB_V h2 hbs]; rfl
    | _ => cases hb
theorem allI_V : ∀ {ds : List D} {vs : List V} {bs : List Int}, RepVs z.K L H ds vs → allI ds = some bs → vs = bs.map V.int
  | [], _, bs, h, e => by
    have e : some [] = some bs := by simpa [allI] using e
    cases e; cases h; rfl
  | d :: ds, _, bs, h, e => by
    obtain ⟨v, t, rfl, h1, h2⟩ := h
    unfold allI at e
    rw [List.mapM_cons] at e
    obtain ⟨b, hb, e⟩ := Option.bind_eq_some_iff.mp e
    obtain ⟨bs', hbs, e⟩ := Option.bind_eq_some_iff.mp e
    cases e
    cases d with
    | int k => cases hb; cases h1; rw [allI_V h2 hbs]; rfl
    | _ => cases hb
end
section
variable {X : Cx} {W : WX} {m : M (List D)} {e : Expr} {es : List Expr} {p pos : Pos}
theorem rs1 {K : PySem.W.Frag} {L : List Addr} {H : Hp} {d : D} {vs : List V} (h : RepVs K L H [d] vs) : ∃ v, vs = [v] ∧ RepV K L H d v := by
  obtain ⟨v, t, rfl, h1, h2⟩ := h
  cases h2
  exact ⟨v, rfl, h1⟩
theorem rs2 {K : PySem.W.Frag} {L : List Addr} {H : Hp} {d d2 : D} {vs : List V} (h : RepVs K L H [d, d2] vs) : ∃ v v2, vs = [v, v2] ∧ RepV K L H d v ∧ RepV K L H d2 v2 := by
  obtain ⟨v, t, rfl, h1, h2⟩ := h
  obtain ⟨v2, rfl, h3⟩ := rs1 h2
  exact ⟨v, v2, rfl, h1, h3⟩
theorem f_Int {z : Cz} : FnF z gInt (fun xs H Q => (∃ i, xs = [.int i] ∧ Q (.int i) H) ∨ ∃ k, xs = [.bl k] ∧ Q (.int (if k then 1 else 0)) H) := by
  intro W σ L s H ds vs Q rs rv h
  unfold gInt at h
  split at h
  · obtain ⟨v, rfl, h1⟩ := rs1 rv
    cases h1
    exact .inl ⟨_, rfl, h.done rs rfl⟩
  · obtain ⟨v, rfl, h1⟩ := rs1 rv
    cases h1
    exact .inr ⟨_, rfl, h.done rs rfl⟩
  · exact h.elim
theorem f_Max2 {z : Cz} : FnF z gMax2 (fun xs H Q => ∃ i j, xs = [.int i, .int j] ∧ Q (.int (if j > i then j else i)) H) := by
  intro W σ L s H ds vs Q rs rv h
  unfold gMax2 at h
  split at h
  · obtain ⟨v, v2, rfl, h1, h2⟩ := rs2 rv
    cases h1; cases h2
    exact ⟨_, _, rfl, h.done rs rfl⟩
  · exact h.elim
theorem f_Min2 {z : Cz} : FnF z gMin2 (fun xs H Q => ∃ i j, xs = [.int i, .int j] ∧ Q (.int (if j < i then j else i)) H) := by
  intro W σ L s H ds vs Q rs rv h
  unfold gMin2 at h
  split at h
  · obtain ⟨v, v2, rfl, h1, h2⟩ := rs2 rv
    cases h1; cases h2
    exact ⟨_, _, rfl, h.done rs rfl⟩
  · exact h.elim
theorem f_Abs {z : Cz} : FnF z gAbs (fun xs H Q => ∃ i, xs = [.int i] ∧ Q (.int (if i < 0 then -i else i)) H) := by
  intro W σ L s H ds vs Q rs rv h
  unfold gAbs at h
  split at h
  · obtain ⟨v, rfl, h1⟩ := rs1 rv
    cases h1
    exact ⟨_, rfl, h.done rs rfl⟩
  · exact h.elim
theorem f_Len {z : Cz} : FnF z gLen (fun xs H Q => (∃ x n, xs = [x] ∧ LenV z.K x H n ∧ Q (.int n) H) ∨ (∃ a kvs, xs = [V.ref a] ∧ H a = some (.dK kvs) ∧ Q (.int kvs.length) H)) := by
  intro W σ L s H ds vs Q rs rv h
  unfold gLen at h
  split at h
  · obtain ⟨v, rfl, h1⟩ := rs1 rv
    cases h1
    split at h
    · rename_i hl; exact .inl ⟨_, _, rfl, ⟨lim_line hl, rfl⟩, h.done rs rfl⟩
    · exact h.elim
  · obtain ⟨v, rfl, h1⟩ := rs1 rv
    obtain ⟨a, us, rfl, ht, hv⟩ := h1
    exact .inl ⟨_, us.length, rfl, .inr ⟨us, ht, rfl⟩, by rw [← hv.len]; exact h.done rs rfl⟩
  · obtain ⟨v, rfl, h1⟩ := rs1 rv
    obtain ⟨a, ha, rfl⟩ := h1
    split at h
    · rename_i kvs e
      obtain ⟨u, o, h1, h2, es, h3, h4, h5⟩ := rs.at_ _ _ _ ha e
      have h2 : u = o := h2
      subst h2 h3
      have hl := congrArg List.length h4
      rw [List.length_map, List.length_map] at hl
      exact .inr ⟨a, es, rfl, h1, by rw [← hl]; exact h.done rs rfl⟩
    · rename_i o no e
      cases ei : o.items with
      | none => rw [ei] at h; exact h.elim
      | some ds =>
        rw [ei] at h
        have el := (show lstAt s _ = some ds from (congrArg (fun o => Option.bind o O.items) e).trans ei)
        obtain ⟨us, hq, hv⟩ := lst_V rs ha el
        exact .inl ⟨_, us.length, rfl, .inl ⟨us, hq, rfl⟩, by rw [← hv.len]; exact h.done rs rfl⟩
    · exact h.elim
  · obtain ⟨v, rfl, h1⟩ := rs1 rv
    obtain ⟨rfl, hk⟩ := h1
    exact .inl ⟨_, _, rfl, .inl ⟨_, hk.sq, rfl⟩, by rw [List.length_map]; exact h.done rs rfl⟩
  · exact h.elim
theorem f_LenQ {z : Cz} : SqF z gLenQ (fun xs H Q => ∃ p ys, xs = [.ref p] ∧ (SqL z.K H p ys ∨ SqT z.K H p ys) ∧ Q (.int ys.length) H) := by
  intro W σ L s H ds v Q rs ⟨a, vs, e, hs, hv⟩ h
  exact ⟨a, vs, by rw [e], hs, by rw [← hv.len]; exact h.done rs rfl⟩
/-- .. of lists alone -/
def RLst (K : PySem.W.Frag) : Rep (List D) V := fun L H ds v => ∃ a vs, v = .ref a ∧ SqL K H a vs ∧ RepVs K L H ds vs
abbrev tQL (X : Cx) (W : WX) (m : M (List D)) : TE := tG X.z (RLst X.K) W m
theorem ql_tmp (h : PE X e (tL X W m)) : PE X e (tQL X W m) := h.imp fun σ H Q ⟨ρ, L, s, h1, h2, h3⟩ => ⟨ρ, L, s, h1, h2, by
  cases q : m ρ s with
  | ok ds s' =>
    rw [q] at h3
    intro b L' H' e rs rt
    obtain ⟨a, vs, rfl, k1, _, _, k2⟩ := rt
    exact h3 _ L' H' e rs ⟨a, vs, rfl, SqL.of k1, k2⟩
  | exc c s' => rw [q] at h3; exact h3
  | bad => rw [q] at h3; exact h3⟩
def mLstV (m : M D) : M (List D) := fun ρ s => (m ρ s).bind fun d s1 => match d with
  | .ref n => R.of (lstAt s1 n) s1
  | _ => .bad
theorem ql_val {m : M D} (h : PE X e (tE X W m)) : PE X e (tQL X W (mLstV m)) := h.imp fun σ H Q ⟨ρ, L, s, h1, h2, h3⟩ => ⟨ρ, L, s, h1, h2, (Post.bind (rep := RepV X.K) h3).mono fun v H1 ⟨d, L1, s1, e1, rs1, rv1, p1⟩ => by
  cases d with
  | ref n =>
    obtain ⟨a, ha, rfl⟩ := rv1
    have p1 : Post X.z (RLst X.K) W σ L1 H1 (R.of (lstAt s1 n) s1) Q := p1
    cases q : lstAt s1 n with
    | some ds =>
      rw [q] at p1
      obtain ⟨vs, hq, hv⟩ := lst_V rs1 ha q
      exact p1.done rs1 ⟨a, vs, rfl, hq, hv⟩
    | none => rw [q] at p1; exact p1.elim
  | _ => exact p1.elim⟩
theorem e_bltL {id : String} {g : F} {x : Str} {r : List V → Hp → VK → Prop} (hc : CallR X (.builtin id) r) (hG : ∀ (W : WX) (σ : St) (L : List Addr) (s : S) (H : Hp) (ds : List D) (v : V) (Q : VK), RepS X.z L s H → RLst X.K L H ds v → Post X.z (RepV X.K) W σ L H (g ds s) Q → r [v] H Q)
    (hv : bootBuiltins x = some (.builtin id)) (hm : X.mg x = none) (ha : PE X e (tQL X W m)) (hg : Gl X x := by rfl) (hn : x ≠ "__name__" := by decide) (hdb : (x == ("__debug__" : Str)) = false := by decide)
    (he : starEach [e] X.env = (false, eval e X.env) :: starEach [] X.env := by rfl) (hpl : (backTo pos (starEach [] X.env)).any (·.1) = false := by rfl) : PE X (.Call (.Name x p) [e] [] pos) (tE X W (mCall g m)) :=
  (pe_callB hc hg hm hv (pa_cons ha pa_nil he) hn hdb he hpl).imp fun σ H Q ⟨ρ, L, s, h1, h2, h3⟩ => ⟨ρ, L, s, h1, h2, (Post.bind (rep := RLst X.K) h3).mono fun v H1 ⟨ds, L1, s1, e1, rs1, rv1, p1⟩ => hG W σ L1 s1 H1 ds v Q rs1 rv1 p1⟩
theorem CallR.or {f : Value} {r r' : List V → Hp → VK → Prop} (h : CallR X f r) (h' : CallR X f r') : CallR X f (fun xs H Q => r xs H Q ∨ r' xs H Q) := by
  intro pins s σ H xs us Q I rv q
  rcases q with q | q
  · exact h pins s σ H xs us Q I rv q
  · exact h' pins s σ H xs us Q I rv q
theorem e_int' (hm : X.mg "int" = none) (ha : PA X [e] (tA X W m)) (hg : Gl X "int" := by rfl) (he : starEach [e] X.env = (false, eval e X.env) :: starEach [] X.env := by rfl) (hpl : (backTo pos (starEach [] X.env)).any (·.1) = false := by rfl) :
    PE X (.Call (.Name "int" p) [e] [] pos) (tE X W (mCall gInt m)) := e_ty call_int1 f_Int (by decide +kernel) hm ha hg (by decide) (by decide) he hpl
theorem e_max2 {e2 : Expr} (hc : X.calm = true) (hm : X.mg "max" = none) (ha : PA X [e, e2] (tA X W m)) (hg : Gl X "max" := by rfl) (he : starEach [e, e2] X.env = (false, eval e X.env) :: starEach [e2] X.env := by rfl) (hpl : (backTo pos (starEach [e2] X.env)).any (·.1) = false := by rfl) :
    PE X (.Call (.Name "max" p) [e, e2] [] pos) (tE X W (mCall gMax2 m)) := e_blt (call_max2 hc) f_Max2 (by decide +kernel) hm ha hg (by decide) (by decide) he hpl
theorem e_min2 {e2 : Expr} (hc : X.calm = true) (hm : X.mg "min" = none) (ha : PA X [e, e2] (tA X W m)) (hg : Gl X "min" := by rfl) (he : starEach [e, e2] X.env = (false, eval e X.env) :: starEach [e2] X.env := by rfl) (hpl : (backTo pos (starEach [e2] X.env)).any (·.1) = false := by rfl) :
    PE X (.Call (.Name "min" p) [e, e2] [] pos) (tE X W (mCall gMin2 m)) := e_blt (call_min2 hc) f_Min2 (by decide +kernel) hm ha hg (by decide) (by decide) he hpl
theorem e_abs (hm : X.mg "abs" = none) (ha : PA X [e] (tA X W m)) (hg : Gl X "abs" := by rfl) (he : starEach [e] X.env = (false, eval e X.env) :: starEach [] X.env := by rfl) (hpl : (backTo pos (starEach [] X.env)).any (·.1) = false := by rfl) :
    PE X (.Call (.Name "abs" p) [e] [] pos) (tE X W (mCall gAbs m)) := e_blt call_abs f_Abs (by decide +kernel) hm ha hg (by decide) (by decide) he hpl
theorem e_len (hm : X.mg "len" = none) (ha : PA X [e] (tA X W m)) (hg : Gl X "len" := by rfl) (he : starEach [e] X.env = (false, eval e X.env) :: starEach [] X.env := by rfl) (hpl : (backTo pos (starEach [] X.env)).any (·.1) = false := by rfl) :
    PE X (.Call (.Name "len" p) [e] [] pos) (tE X W (mCall gLen m)) := e_blt (call_len.or call_lenD) f_Len (by decide +kernel) hm ha hg (by decide) (by decide) he hpl
theorem e_lenQ (hm : X.mg "len" = none) (ha : PE X e (tQ X W m)) (hg : Gl X "len" := by rfl) (he : starEach [e] X.env = (false, eval e X.env) :: starEach [] X.env := by rfl) (hpl : (backTo pos (starEach [] X.env)).any (·.1) = false := by rfl) :
    PE X (.Call (.Name "len" p) [e] [] pos) (tE X W (mCall gLenQ m)) := e_bltQ call_len_seq f_LenQ (by decide +kernel) hm ha hg (by decide) (by decide) he hpl
theorem e_all (hc : X.calm = true) (hm : X.mg "all" = none) (ha : PE X e (tQL X W m)) (hg : Gl X "all" := by rfl) (he : starEach [e] X.env = (false, eval e X.env) :: starEach [] X.env := by rfl) (hpl : (backTo pos (starEach [] X.env)).any (·.1) = false := by rfl) :
    PE X (.Call (.Name "all" p) [e] [] pos) (tE X W (mCall gAll m)) := e_bltL (cr_all hc) (fun W σ L s H ds v Q rs ⟨a, vs, e, hs, hv⟩ h => by
      unfold gAll at h
      cases q : allB ds with
      | some bs => rw [q] at h; exact ⟨a, bs, by rw [e], by rw [← allB_V (z := X.z) hv q]; exact hs, h.done rs rfl⟩
      | none => rw [q] at h; exact h.elim) (by decide +kernel) hm ha hg (by decide) (by decide) he hpl
theorem e_any (hc : X.calm = true) (hm : X.mg "any" = none) (ha : PE X e (tQL X W m)) (hg : Gl X "any" := by rfl) (he : starEach [e] X.env = (false, eval e X.env) :: starEach [] X.env := by rfl) (hpl : (backTo pos (starEach [] X.env)).any (·.1) = false := by rfl) :
    PE X (.Call (.Name "any" p) [e] [] pos) (tE X W (mCall gAny m)) := e_bltL (cr_any hc) (fun W σ L s H ds v Q rs ⟨a, vs, e, hs, hv⟩ h => by
      unfold gAny at h
      cases q : allB ds with
      | some bs => rw [q] at h; exact ⟨a, bs, by rw [e], by rw [← allB_V (z := X.z) hv q]; exact hs, h.done rs rfl⟩
      | none => rw [q] at h; exact h.elim) (by decide +kernel) hm ha hg (by decide) (by decide) he hpl
theorem e_sum (hc : X.calm = true) (hm : X.mg "sum" = none) (ha : PE X e (tQL X W m)) (hg : Gl X "sum" := by rfl) (he : starEach [e] X.env = (false, eval e X.env) :: starEach [] X.env := by rfl) (hpl : (backTo pos (starEach [] X.env)).any (·.1) = false := by rfl) :
    PE X (.Call (.Name "sum" p) [e] [] pos) (tE X W (mCall gSum m)) := e_bltL (cr_sum hc) (fun W σ L s H ds v Q rs ⟨a, vs, e, hs, hv⟩ h => by
      unfold gSum at h
      cases q : allI ds with
      | some bs => rw [q] at h; exact ⟨a, bs, by rw [e], by rw [← allI_V (z := X.z) hv q]; exact hs, h.done rs rfl⟩
      | none => rw [q] at h; exact h.elim) (by decide +kernel) hm ha hg (by decide) (by decide) he hpl
theorem l_list (hm : X.mg "list" = none) (ha : PE X e (tQ X W m)) (hg : Gl X "list" := by rfl) (he : starEach [e] X.env = (false, eval e X.env) :: starEach [] X.env := by rfl) (hpl : (backTo pos (starEach [] X.env)).any (·.1) = false := by rfl) :
    PE X (.Call (.Name "list" p) [e] [] pos) (tL X W (mTmp some m)) := l_tyQ (r := fun xs H Q => ∃ p ys, xs = [.ref p] ∧ (SqL X.K H p ys ∨ SqT X.K H p ys) ∧ ∀ l, H l = none → Q (.ref l) (upd H l (.lst ys))) call_list_of (fun L s H ds ds' v Q rs ⟨a, vs, e, hs, hv⟩ hd h => by
      cases hd
      exact ⟨a, vs, by rw [e], hs, fun l hl => h l vs hl hv⟩) (by decide +kernel) hm ha hg (by decide) (by decide) he hpl
/-- tuple(x) -/
def gTupQ : F := fun ds s => .ok (.tup ds) s
theorem e_tuple (hm : X.mg "tuple" = none) (ha : PE X e (tQ X W m)) (hg : Gl X "tuple" := by rfl) (he : starEach [e] X.env = (false, eval e X.env) :: starEach [] X.env := by rfl) (hpl : (backTo pos (starEach [] X.env)).any (·.1) = false := by rfl) :
    PE X (.Call (.Name "tuple" p) [e] [] pos) (tE X W (mCall gTupQ m)) := e_tyQ call_tuple_of (fun W σ L s H ds v Q rs ⟨a, vs, e, hs, hv⟩ h => by
      rcases hs with hs | hs
      · exact ⟨a, vs, by rw [e], .inl ⟨hs, fun l hl => h _ L _ (Ext.other hl) (rs.other hl) ⟨l, vs, rfl, SqT.of upd_same, hv.ext rs (Ext.other hl)⟩⟩⟩
      · exact ⟨a, vs, by rw [e], .inr ⟨hs, h.done rs ⟨a, vs, rfl, hs, hv⟩⟩⟩) (by decide +kernel) hm ha hg (by decide) (by decide) he hpl
end
end Z

set_option Elab.async false
set_option linter.all false
set_option maxRecDepth 100000
set_option maxHeartbeats 4000000
/-! ZMore: op=, methods, isinstance, raise, try. -/
namespace Z
open PySem L2
/-! ### op= of ints -/
section
variable {X : Cx}
theorem ip_of {op : Operator} {g : D → D → S → R D} {r : R2} (h1 : OpR X (inplaceOp op) r) (h2 : OpF X.z g r) : IpF X op g := ⟨r, h1, h2⟩
theorem q_add : IpF X .Add (fun x y s => match x, y with | .int i, .int j => .ok (.int (i + j)) s | _, _ => .bad) := ip_of iop_add (f_int0 (f' := fun i j => .int (i + j)) (fun _ _ _ _ => rfl) fun x y s => by split <;> simp)
theorem q_sub : IpF X .Sub gSub := ip_of iop_sub f_sub
theorem q_mul : IpF X .Mult gMul := ip_of iop_mul f_mul
theorem q_fdv : IpF X .FloorDiv gFdv := ip_of iop_fdivW f_fdv
theorem q_mod : IpF X .Mod gMod := ip_of iop_mod f_mod
theorem q_xor : IpF X .BitXor gXor := ip_of iop_xor f_xor
theorem q_or : IpF X .BitOr gOr := ip_of iop_or f_or
theorem q_and : IpF X .BitAnd gAnd := ip_of iop_and f_and
theorem q_shr : IpF X .RShift gShr := ip_of iop_shr f_shr
theorem q_shl : IpF X .LShift gShl := ip_of iop_shl f_shl
end
/-! ### methods -/
def tyB (T : String) (s : S) : D → Bool
  | .str _ => decide (T = "str")
  | .ref n => (decide (T = "list") && (lstAt s n).isSome) || (decide (T = "dict") && match s[n]? with
    | some (.dct false false _) => true
    | _ => false)
  | _ => false
def mMeth (T : String) (g : D → List D → S → R D) (mo : M D) (ml : M (List D)) : M D := fun ρ s => (mo ρ s).bind fun x s1 => if tyB T s1 x = true then (ml ρ s1).bind fun ds s2 => g x ds s2 else .bad
def MtF (z : Cz) (g : D → List D → S → R D) (r : V → List V → Hp → VK → Prop) : Prop :=
  ∀ (W : WX) (σ : St) (L : List Addr) (s : S) (H : Hp) (x : D) (v : V) (ds : List D) (vs : List V) (Q : VK), RepS z L s H → RepV z.K L H x v → RepVs z.K L H ds vs → Post z (RepV z.K) W σ L H (g x ds s) Q → r v vs H Q
theorem ty_V {z : Cz} {L : List Addr} {H : Hp} {s : S} {T : String} {x : D} {v : V} (rs : RepS z L s H) (rv : RepV z.K L H x v) (h : tyB T s x = true) : tyV z.K T v H := by
  cases x with
  | str y => cases rv; show T = "str"; exact of_decide_eq_true (show decide (T = "str") = true from h)
  | ref n =>
    obtain ⟨a, ha, rfl⟩ := rv
    have h : ((decide (T = "list") && (lstAt s n).isSome) || (decide (T = "dict") && match s[n]? with | some (.dct false false _) => true | _ => false)) = true := h
    rw [Bool.or_eq_true, Bool.and_eq_true, Bool.and_eq_true] at h
    rcases h with ⟨h1, h2⟩ | ⟨h1, h2⟩
    · obtain ⟨ds, e⟩ := Option.isSome_iff_exists.mp h2
      obtain ⟨vs, hq, _⟩ := lst_V rs ha e
      exact .inl ⟨of_decide_eq_true h1, vs, hq⟩
    · split at h2
      · rename_i kvs e
        obtain ⟨u, o, h3, h4, es, h5, _⟩ := rs.at_ _ _ _ ha e
        have h4 : u = o := h4
        subst h4 h5
        exact .inr (.inr (.inl ⟨of_decide_eq_true h1, .inl ⟨es, h3⟩⟩))
      · cases h2
  | _ => cases h
section
variable {X : Cx} {W : WX} {o e : Expr} {es : List Expr} {mo : M D} {ml : M (List D)} {name : Str} {apos cpos : Pos} {T id : String} {r : V → List V → Hp → VK → Prop} {g : D → List D → S → R D}
theorem e_mt0 (pa : PlainAttrs T) (slot : Slot T name id) (hty : typeOf (.builtin id) = pure (.type "method_descriptor")) (hm : MtR X id r) (hG : MtF X.z g r) (ho : PE X o (tE X W mo))
    (hbase : attributeBase o name X.env (eval o X.env) = eval o X.env := by rfl) (hline : (apos.endLine == cpos.line) = true := by rfl) : PE X (.Call (.Attribute o name apos) [] [] cpos) (tE X W (mMeth T g mo mNil)) :=
  (pe_bm0 pa slot hty hm ho hbase hline).imp fun σ H Q ⟨ρ, L, s, h1, h2, h3⟩ => ⟨ρ, L, s, h1, h2, (Post.bind (rep := RepV X.K) h3).mono fun v H1 ⟨d, L1, s1, e1, rs1, rv1, p1⟩ => by
    split at p1
    · rename_i ht; exact ⟨ty_V rs1 rv1 ht, hG W σ L1 s1 H1 d v [] [] Q rs1 rv1 RepVs.nil p1⟩
    · exact p1.elim⟩
theorem e_mt (pa : PlainAttrs T) (slot : Slot T name id) (hty : typeOf (.builtin id) = pure (.type "method_descriptor")) (hm : MtR X id r) (hG : MtF X.z g r) (ho : PE X o (tE X W mo)) (ha : PA X (e :: es) (tA X W ml))
    (hbase : attributeBase o name X.env (eval o X.env) = eval o X.env := by rfl)
    (hfew : ((backTo cpos (starEach (e :: es) X.env)).all (fun x => !x.1) && (backToKw cpos (keywordEach [] X.env)).all (fun x => x.1.isSome)
      && decide ((e :: es).length + ([] : List Keyword).length + (if ([] : List Keyword).isEmpty then 0 else 1) < 30)) = true := by rfl)
    (hline : (apos.endLine == cpos.line) = true := by rfl) (hs : starEach (e :: es) X.env = (false, eval e X.env) :: starEach es X.env := by rfl) (hplain : (backTo cpos (starEach es X.env)).any (·.1) = false := by rfl) :
    PE X (.Call (.Attribute o name apos) (e :: es) [] cpos) (tE X W (mMeth T g mo ml)) :=
  (pe_bm pa slot hty hm ho ha hbase hfew hline hs hplain).imp fun σ H Q ⟨ρ, L, s, h1, h2, h3⟩ => ⟨ρ, L, s, h1, h2, (Post.bind (rep := RepV X.K) h3).mono fun v H1 ⟨d, L1, s1, e1, rs1, rv1, p1⟩ => by
    split at p1
    · rename_i ht
      exact ⟨ty_V rs1 rv1 ht, ρ, L1, s1, h1.ext h2 e1, rs1, (Post.bind (rep := RepVs X.K) p1).mono fun vs H2 ⟨ds, L2, s2, e2, rs2, rv2, p2⟩ => hG W σ L2 s2 H2 d v ds vs Q rs2 (rv1.ext rs1 e2) rv2 p2⟩
    · exact p1.elim⟩
end
/-- the list that may be written at a number -/
def wlAt (s : S) (n : Nat) : Option (List D) := match s[n]? with
  | some (.lst ds) => some ds
  | _ => none
theorem wl_V {z : Cz} {L : List Addr} {H : Hp} {s : S} {n : Nat} {a : Addr} {ds : List D} (rs : RepS z L s H) (ha : L[n]? = some a) (h : wlAt s n = some ds) : ∃ vs, H a = some (.lst vs) ∧ RepVs z.K L H ds vs := by
  unfold wlAt at h
  split at h
  · rename_i ds' e
    cases h
    exact rs.at_ _ _ _ ha e
  · cases h
def gAppend (x : D) (ds : List D) (s : S) : R D := match x, ds with
  | .ref n, [y] => match wlAt s n with
    | some xs => if xs.length < lim then .ok .non (s.set n (.lst (xs ++ [y]))) else .bad
    | none => .bad
  | _, _ => .bad
def gPop (x : D) (ds : List D) (s : S) : R D := match x, ds with
  | .ref n, [] => match wlAt s n with
    | some xs => match xs[xs.length - 1]? with
      | some y => .ok y (s.set n (.lst xs.dropLast))
      | none => .bad
    | none => .bad
  | _, _ => .bad
def gPopAt (x : D) (ds : List D) (s : S) : R D := match x, ds with
  | .ref n, [.int i] => match wlAt s n with
    | some xs => if i.natAbs < 2 ^ 63 then match seqIndex? i xs.length with
        | some k => match xs[k]? with
          | some y => .ok y (s.set n (.lst (xs.eraseIdx k)))
          | none => .bad
        | none => .bad
      else .bad
    | none => .bad
  | _, _ => .bad
def gExtend (x : D) (ds : List D) (s : S) : R D := match x, ds with
  | .ref n, [.ref m] => match wlAt s n, wlAt s m with
    | some xs, some ys => if xs.length + ys.length ≤ lim then .ok .non (s.set n (.lst (xs ++ ys))) else .bad
    | _, _ => .bad
  | _, _ => .bad
section
variable {X : Cx} {W : WX} {o e : Expr} {mo : M D} {ml : M (List D)} {apos cpos : Pos}
theorem f_Append {z : Cz} : MtF z gAppend rAppend := by
  intro W σ L s H x v ds vs Q rs rv rvs h
  unfold gAppend at h
  split at h
  · obtain ⟨a, ha, rfl⟩ := rv
    obtain ⟨y, rfl, ry⟩ := rs1 rvs
    split at h
    · rename_i xs e
      split at h
      · rename_i hl
        obtain ⟨us, h1, h2⟩ := wl_V rs ha e
        refine ⟨a, us, y, rfl, rfl, h1, by rw [← h2.len]; exact lim_line' hl, ?_⟩
        exact h _ L _ (Ext.write ha) (rs.write ha ⟨_, upd_same, (h2.append (RepVs.cons ry RepVs.nil)).ext rs (Ext.write ha)⟩) rfl
      · exact h.elim
    · exact h.elim
  · exact h.elim
theorem f_Pop {z : Cz} : MtF z gPop rPop := by
  intro W σ L s H x v ds vs Q rs rv rvs h
  unfold gPop at h
  split at h
  · obtain ⟨a, ha, rfl⟩ := rv
    cases rvs
    split at h
    · rename_i xs e
      split at h
      · rename_i y hy
        obtain ⟨us, h1, h2⟩ := wl_V rs ha e
        obtain ⟨w, hw, rw'⟩ := h2.get hy
        refine ⟨a, us, w, rfl, rfl, h1, by rw [← h2.len]; exact hw, ?_⟩
        refine h _ L _ (Ext.write ha) (rs.write ha ⟨_, upd_same, ?_⟩) (rw'.ext rs (Ext.write ha))
        have := (h2.take (xs.length - 1)).ext rs (Ext.write ha (u := .lst us.dropLast))
        rw [← List.dropLast_eq_take] at this
        rw [h2.len, ← List.dropLast_eq_take] at this
        exact this
      · exact h.elim
    · exact h.elim
  · exact h.elim
theorem f_PopAt {z : Cz} : MtF z gPopAt rPopAt := by
  intro W σ L s H x v ds vs Q rs rv rvs h
  unfold gPopAt at h
  split at h
  · obtain ⟨a, ha, rfl⟩ := rv
    obtain ⟨y, rfl, ry⟩ := rs1 rvs
    cases ry
    split at h
    · rename_i xs e
      split at h
      · rename_i hb
        split at h
        · rename_i k hk
          split at h
          · rename_i y hy
            obtain ⟨us, h1, h2⟩ := wl_V rs ha e
            obtain ⟨w, hw, rw'⟩ := h2.get hy
            exact ⟨a, us, _, k, w, rfl, rfl, h1, by omega, by omega, by rw [← h2.len]; exact hk, hw, h _ L _ (Ext.write ha) (rs.write ha ⟨_, upd_same, (h2.eraseIdx k).ext rs (Ext.write ha)⟩) (rw'.ext rs (Ext.write ha))⟩
          · exact h.elim
        · exact h.elim
      · exact h.elim
    · exact h.elim
  · exact h.elim
theorem f_Extend {z : Cz} : MtF z gExtend rExtend := by
  intro W σ L s H x v ds vs Q rs rv rvs h
  unfold gExtend at h
  split at h
  · obtain ⟨a, ha, rfl⟩ := rv
    obtain ⟨y, rfl, ry⟩ := rs1 rvs
    obtain ⟨b, hb, rfl⟩ := ry
    split at h
    · rename_i xs ys e e2
      split at h
      · rename_i hl
        obtain ⟨us, h1, h2⟩ := wl_V rs ha e
        obtain ⟨ws, h3, h4⟩ := wl_V rs hb e2
        refine ⟨a, b, us, ws, rfl, rfl, h1, h3, by rw [← h2.len, ← h4.len]; exact lim_line hl, ?_⟩
        exact h _ L _ (Ext.write ha) (rs.write ha ⟨_, upd_same, (h2.append h4).ext rs (Ext.write ha)⟩) rfl
      · exact h.elim
    · exact h.elim
  · exact h.elim
theorem e_append (ho : PE X o (tE X W mo)) (ha : PA X [e] (tA X W ml)) (hbase : attributeBase o "append" X.env (eval o X.env) = eval o X.env := by rfl)
    (hfew : ((backTo cpos (starEach [e] X.env)).all (fun x => !x.1) && (backToKw cpos (keywordEach [] X.env)).all (fun x => x.1.isSome)
      && decide ([e].length + ([] : List Keyword).length + (if ([] : List Keyword).isEmpty then 0 else 1) < 30)) = true := by rfl)
    (hline : (apos.endLine == cpos.line) = true := by rfl) (hs : starEach [e] X.env = (false, eval e X.env) :: starEach [] X.env := by rfl) (hplain : (backTo cpos (starEach [] X.env)).any (·.1) = false := by rfl) :
    PE X (.Call (.Attribute o "append" apos) [e] [] cpos) (tE X W (mMeth "list" gAppend mo ml)) := e_mt PySem.F.plainAttrs_list PySem.F.slot_list_append PySem.F.type_list_append mt_append f_Append ho ha hbase hfew hline hs hplain
theorem e_popAt (ho : PE X o (tE X W mo)) (ha : PA X [e] (tA X W ml)) (hbase : attributeBase o "pop" X.env (eval o X.env) = eval o X.env := by rfl)
    (hfew : ((backTo cpos (starEach [e] X.env)).all (fun x => !x.1) && (backToKw cpos (keywordEach [] X.env)).all (fun x => x.1.isSome)
      && decide ([e].length + ([] : List Keyword).length + (if ([] : List Keyword).isEmpty then 0 else 1) < 30)) = true := by rfl)
    (hline : (apos.endLine == cpos.line) = true := by rfl) (hs : starEach [e] X.env = (false, eval e X.env) :: starEach [] X.env := by rfl) (hplain : (backTo cpos (starEach [] X.env)).any (·.1) = false := by rfl) :
    PE X (.Call (.Attribute o "pop" apos) [e] [] cpos) (tE X W (mMeth "list" gPopAt mo ml)) := e_mt PySem.F.plainAttrs_list PySem.F.slot_list_pop PySem.F.type_list_pop mt_popAt f_PopAt ho ha hbase hfew hline hs hplain
theorem e_pop (ho : PE X o (tE X W mo)) (hbase : attributeBase o "pop" X.env (eval o X.env) = eval o X.env := by rfl) (hline : (apos.endLine == cpos.line) = true := by rfl) :
    PE X (.Call (.Attribute o "pop" apos) [] [] cpos) (tE X W (mMeth "list" gPop mo mNil)) := e_mt0 PySem.F.plainAttrs_list PySem.F.slot_list_pop PySem.F.type_list_pop mt_pop f_Pop ho hbase hline
end
/-! ### isinstance -/
def tyName (s : S) : D → Option String
  | .non => some "NoneType"
  | .bl _ => some "bool"
  | .int _ => some "int"
  | .str _ => some "str"
  | .tup _ => some "tuple"
  | .ref n => match s[n]? with
    | some (.lst _) => some "list"
    | some (.dct false false _) => some "dict"
    | _ => none
  | _ => none
def isaB (a b : String) : Bool := decide (a = b) || (decide (a = "bool") && decide (b = "int"))
def tys : List String := ["NoneType", "bool", "int", "str", "tuple", "list", "dict"]
theorem isa_ok : ∀ a ∈ tys, ∀ b ∈ ["bool", "int", "str", "tuple", "list", "dict"], kitB a b = some (isaB a b) := by decide +kernel
theorem tyName_mem {s : S} {d : D} {t : String} (h : tyName s d = some t) : t ∈ tys := by
  unfold tyName at h
  split at h
  all_goals first
    | (cases h; decide)
    | cases h
    | (split at h <;> first | (cases h; decide) | cases h)
theorem tyX_V {z : Cz} {L : List Addr} {H : Hp} {s : S} {d : D} {v : V} {t : String} (rs : RepS z L s H) (rv : RepV z.K L H d v) (h : tyName s d = some t) : TyX z.K H v (.type t) := by
  cases d with
  | non => cases rv; cases h; exact .base .non
  | bl b => cases rv; cases h; exact .base (.bl b)
  | int i => cases rv; cases h; exact .base (.int i)
  | str x => cases rv; cases h; exact .base (.str x)
  | tup ds =>
    cases h
    obtain ⟨a, vs, rfl, h1, _⟩ := rv
    rcases h1 with (h1 | ⟨o, h1⟩) | ⟨o, its, n, h1, h2, _⟩
    · exact .base (.tup h1)
    · exact .fTuple h1
    · exact .kTuple h1 h2
  | ref n =>
    obtain ⟨a, ha, rfl⟩ := rv
    have h : (match s[n]? with
      | some (.lst _) => some "list"
        | some (.dct false false _) => some "dict"
      | _ => none) = some t := h
    split at h
    · rename_i ds e
      cases h
      obtain ⟨vs, h1, _⟩ := rs.at_ _ _ _ ha e
      exact .base (.lst h1)
    · rename_i kvs e
      cases h
      obtain ⟨u, o, h1, h2, es, h3, _⟩ := rs.at_ _ _ _ ha e
      have h2 : u = o := h2
      subst h2 h3
      exact .base (.dK h1)
    · cases h
  | ty x => cases h
  | kl a ns => cases h
/-- isinstance(x, cs) -/
def mIsi (m : M D) (cs : List String) : M D := fun ρ s => (m ρ s).bind fun d s1 => R.of ((tyName s1 d).map fun t => .bl (cs.any fun c => isaB t c)) s1
section
variable {X : Cx} {W : WX} {e : Expr} {m : M D} {p p2 pos : Pos}
/-- names of built-in types, as values -/
def tyC (cs : List String) : TA := fun _ H Q => Q (cs.map V.ty) H
theorem ty_nil : PA X [] (tyC []) := pa_nil
theorem ty_cons {x : Str} {n : String} {es : List Expr} {cs : List String} (hm : X.mg x = none) (hv : bootBuiltins x = some (.type n)) (hr : PA X es (tyC cs)) (hg : Gl X x := by rfl) (hn : x ≠ "__name__" := by decide) (hd : (x == ("__debug__" : Str)) = false := by decide)
    (hs : starEach (.Name x p :: es) X.env = (false, eval (.Name x p) X.env) :: starEach es X.env := by rfl) : PA X (.Name x p :: es) (tyC (n :: cs)) := by
  have k : PE X (.Name x p) (tC (.ty n)) := ⟨fun pins s σ H Q I h => ld_blt I hg hm hv ⟨.ty n, H, I, rfl, h⟩ hn hd⟩
  exact pa_cons k hr hs
theorem e_isi1 {x : Str} {n : String} (hmi : X.mg "isinstance" = none) (hm : X.mg x = none) (hv : bootBuiltins x = some (.type n)) (hc : n ∈ ["bool", "int", "str", "tuple", "list", "dict"]) (he : PE X e (tE X W m)) (hgi : Gl X "isinstance" := by rfl) (hg : Gl X x := by rfl)
    (hn : x ≠ "__name__" := by decide) (hd : (x == ("__debug__" : Str)) = false := by decide)
    (hs : starEach [e, .Name x p2] X.env = (false, eval e X.env) :: starEach [.Name x p2] X.env := by rfl) (hs2 : starEach [.Name x p2] X.env = (false, eval (.Name x p2) X.env) :: starEach [] X.env := by rfl)
    (hpl : (backTo pos (starEach [.Name x p2] X.env)).any (·.1) = false := by rfl) : PE X (.Call (.Name "isinstance" p) [e, .Name x p2] [] pos) (tE X W (mIsi m [n])) := by
  have k : PE X (.Name x p2) (tC (.ty n)) := ⟨fun pins s σ H Q I h => ld_blt I hg hm hv ⟨.ty n, H, I, rfl, h⟩ hn hd⟩
  refine (pe_callB call_isi hgi hmi (by decide +kernel) (pa_cons he (pa_cons k pa_nil hs2) hs) (by decide) (by decide) hs hpl).imp fun σ H Q ⟨ρ, L, s, h1, h2, h3⟩ => ⟨ρ, L, s, h1, h2, (Post.bind (rep := RepV X.K) h3).mono fun v H1 ⟨d, L1, s1, e1, rs1, rv1, p1⟩ => ?_⟩
  cases q : tyName s1 d with
  | some t =>
    rw [q] at p1
    have p1 : Post X.z (RepV X.K) W σ L1 H1 (.ok (.bl ([n].any fun c => isaB t c)) s1) Q := p1
    have p2 := p1.done rs1 (b := V.bl ([n].any fun c => isaB t c)) rfl
    refine ⟨v, .ty n, .type t, .type n, isaB t n, rfl, .ty n, tyX_V rs1 rv1 q, kit_ty (isa_ok t (tyName_mem q) n hc), ?_⟩
    simpa using p2
  | none => rw [q] at p1; exact p1.elim
theorem cls_all : ∀ cs : List String, Paired ClsV (cs.map V.ty) (cs.map Value.type)
  | [] => .nil
  | c :: cs => .cons (.ty c) (cls_all cs)
theorem cls_any {K : PySem.W.Frag} {t : String} (ht : t ∈ tys) : ∀ cs : List String, (∀ n ∈ cs, n ∈ ["bool", "int", "str", "tuple", "list", "dict"]) → PySem.W.kitAny K (.type t) (cs.map Value.type) = some (cs.any fun c => isaB t c)
  | [], _ => rfl
  | c :: cs, hc => by
    refine kitAny_cons (kit_ty (isa_ok t ht c (hc c (by simp)))) (fun hb => ?_) (fun hb => by simp [hb])
    rw [List.any_cons, hb, Bool.false_or]
    exact cls_any ht cs fun n hn => hc n (by simp [hn])
theorem e_isiN {es : List Expr} {k : Nat} {cs : List String} {tpos : Pos} (hmi : X.mg "isinstance" = none) (hes : PA X es (tyC cs)) (hc : ∀ n ∈ cs, n ∈ ["bool", "int", "str", "tuple", "list", "dict"]) (hl : cs.length ≤ 100) (he : PE X e (tE X W m)) (hgi : Gl X "isinstance" := by rfl)
    (hs : starEach [e, .Tuple es k tpos] X.env = (false, eval e X.env) :: starEach [.Tuple es k tpos] X.env := by rfl) (hs2 : starEach [.Tuple es k tpos] X.env = (false, eval (.Tuple es k tpos) X.env) :: starEach [] X.env := by rfl)
    (hpl : (backTo pos (starEach [.Tuple es k tpos] X.env)).any (·.1) = false := by rfl) : PE X (.Call (.Name "isinstance" p) [e, .Tuple es k tpos] [] pos) (tE X W (mIsi m cs)) := by
  refine (pe_callB call_isiT hgi hmi (by decide +kernel) (pa_cons he (pa_cons (pe_tup hes) pa_nil hs2) hs) (by decide) (by decide) hs hpl).imp fun σ H Q ⟨ρ, L, s, h1, h2, h3⟩ => ⟨ρ, L, s, h1, h2, (Post.bind (rep := RepV X.K) h3).mono fun v H1 ⟨d, L1, s1, e1, rs1, rv1, p1⟩ => ?_⟩
  cases q : tyName s1 d with
  | some t =>
    rw [q] at p1
    refine ⟨by rw [List.length_map]; exact lim_line (by unfold lim; omega), fun tp htp => ?_⟩
    have rs2 := rs1.other (u := .tup (cs.map V.ty)) htp
    refine ⟨v, tp, cs.map V.ty, .type t, cs.map Value.type, cs.any fun c => isaB t c, rfl, upd_same, ?_, tyX_V rs2 (rv1.ext rs1 (Ext.other htp)) q, ?_, p1 _ L1 _ (Ext.other htp) rs2 rfl⟩
    · exact cls_all cs
    · exact cls_any (tyName_mem q) cs hc
  | none => rw [q] at p1; exact p1.elim
end
/-! ### raise, try -/
def mRaise (c : Str) : MS := fun ρ s => some (.xc c ρ, s)
/-- an own class of errors -/
structure ExcN (K : PySem.W.Frag) (mg : Str → Option Value) (x : Str) (C : Addr) : Prop where
  gC : mg x = some (.ref C)
  kC : PySem.W.keepIn K (.ref C) = true
  sB : PySem.W.subIn K (.ref C) (.type "BaseException") = some true
  ty : PySem.W.typeIn K (.ref C) = some (.type "type")
  ic : ExcC K C
/-- .. that is raised -/
structure ExcK (K : PySem.W.Frag) (mg : Str → Option Value) (x : Str) (C : Addr) : Prop extends ExcN K mg x C where
  ec : PySem.W.excIn K C [.type "ValueError", .type "Exception", .type "BaseException", .type "object"] "ValueError.__new__" = true
section
variable {X : Cx} {W : WX} {k : Nat} {pos : Pos}
theorem s_raise {x m : Str} {C : Addr} {j : Nat} {p p2 pos' : Pos} (E : ExcK X.K X.mg x C) (hc : X.calm = true) (tk : Takes X W) (hg : Gl X x := by rfl) (hdb : (x == ("__debug__" : Str)) = false := by decide) :
    PS X (.Raise (some (.Call (.Name x p) [.Constant (.str m) j p2] [] pos')) none pos) (tS X W (mRaise x)) :=
  (ps_raise hc tk (pmk_own PySem.F.excBase_ValueError E.ec E.gC E.kC (raises_own E.sB E.ty) hg hdb)).imp fun D σ H ⟨ρ, L, s, h1, h2, h3⟩ => h3 (.ref C) σ L H E.gC Ext.refl h2 h1
/-- try: .. except x as n: ..; hit: which classes are x's; the suite by the class's name -/
def suFin (i : Nat) : Option (Fl × S) → Option (Fl × S)
  | some (.nx ρ', s') => some (.nx (ρ'.set i none), s')
  | some (.bk ρ', s') => some (.bk (ρ'.set i none), s')
  | some (.ct ρ', s') => some (.ct (ρ'.set i none), s')
  | some (.rt d, s') => some (.rt d, s')
  | _ => none
def mTryAs (hit : Str → Option Bool) (i : Nat) (body : MS) (suite : Str → MS) : MS := fun ρ s => match body ρ s with
  | some (.xc c ρ', s') => match hit c with
    | some true => if i < ρ'.length then suFin i (suite c (ρ'.set i none) s') else none
    | some false => some (.xc c ρ', s')
    | none => none
  | r => r
theorem RepE.drop {K : PySem.W.Frag} {L : List Addr} {H : Hp} {ρ : Ev} {σ : St} (h : RepE K L H ρ σ) (i : Nat) (o : Option V) : RepE K L H (ρ.set i none) (σ.set i o) := by
  refine ⟨by simp [h.1], fun j e q => ?_⟩
  by_cases hj : i = j
  · subst hj
    have hl : i < ρ.length := by have := (List.getElem?_eq_some_iff.mp q).1; simpa using this
    rw [List.getElem?_set_self hl] at q; cases q
  · rw [List.getElem?_set_ne hj] at q ⊢
    exact h.2 j e q
/-- what a suite is read as -/
def tSu (X : Cx) (su : Str → MS) : Addr → Value → Option Addr → TS := fun a cls d D σ H => ∃ c, X.mg c = some cls ∧ d = none ∧ tS X W0 (su c) D σ H
theorem s_tryAs {x n : Str} {c : Value} {hit : Str → Option Bool} {i : Nat} {body suite : List Stmt} {b₀ : Stmt} {np pos' : Pos} {mb : MS} {su : Str → MS} (hs : X.stack = X.env :: X.outer) (hf : X.env.frame = some X.env.locals) (hN : X.N.Nodup) (hi : X.N[i]? = some n) (hln : X.env.kindOf n = some .local)
    (hc : Names X x c) (hh : ∀ y cls b, hit y = some b → X.mg y = some cls → PySem.W.exmOne X.K cls c = some b) (tk : Takes X W)
    (hb : ∀ (W' : WX) (pn : List (Addr × Obj)) (xe : Value → Shared → Prop), Takes (X.tr pn xe) W' → PassesOwn (model X.prog X.w) X.A X.env xe → PSs (X.tr pn xe) body (tS X W' mb))
    (hsu : ∀ (a : Addr) (oe : Obj) (cls : Value) (pn : List (Addr × Obj)) (y : Str), X.mg y = some cls → Zc cls none oe → (∃ vs, oe.data = .fields vs) → PSs (X.suite a ((a, oe) :: pn)) (b₀ :: suite) (fun D σ H => σ[i]? = some (some (.ref a)) ∧ tS X W0 (su y) D σ H)) :
    PS X (.Try body [.ExceptHandler (some (.Name x np)) (some n) (b₀ :: suite) pos'] [] [] pos) (tS X W (mTryAs hit i mb su)) := by
  have k := ps_try_as (X := X) (x := x) (n := n) (c := c) (i := i) (body := body) (suite := suite) (b₀ := b₀) (np := np) (pos := pos) (pos' := pos') (tb := fun W' => tS X W' mb) (ts := fun a cls d D σ H => d = none ∧ σ[i]? = some (some (.ref a)) ∧ ∃ y, X.mg y = some cls ∧ tS X W0 (su y) D σ H) (Wout := W) hs hf hN hi hln hc tk hb
    (fun a oe cls d pn hz hd => ⟨fun pins s σ H D I ⟨h1, h2, y, h3, h4⟩ => by
      subst h1
      exact (hsu a oe cls pn y h3 hz hd).run pins s σ H D I ⟨h2, h4⟩⟩)
  refine k.imp fun D σ H ⟨ρ, L, s, h1, h2, h3⟩ => ⟨ρ, L, s, h1, h2, ?_⟩
  unfold mTryAs at h3
  match q : mb ρ s, h3 with
  | some (.nx ρ', s'), h3 => exact h3
  | some (.bk ρ', s'), h3 => exact h3
  | some (.ct ρ', s'), h3 => exact h3
  | some (.rt d, s'), h3 => exact h3
  | none, h3 => exact h3
  | some (.xc y ρ', s'), h3 =>
    have h3 : PostS X.z W D L H (match hit y with
      | some true => if i < ρ'.length then suFin i (su y (ρ'.set i none) s') else none
      | some false => some (.xc y ρ', s')
      | none => none) := h3
    intro cls σ' L' H' hcls e rs re
    cases hq : hit y with
    | none => rw [hq] at h3; exact h3.elim
    | some b =>
      rw [hq] at h3
      refine ⟨b, hh y cls b hq hcls, fun hb a ha => ?_, fun hb => ?_⟩
      · subst hb
        have h3 : PostS X.z W D L H (if i < ρ'.length then suFin i (su y (ρ'.set i none) s') else none) := h3
        split at h3
        · rename_i hlen
          refine ⟨rfl, List.getElem?_set_self (by rw [← re.1]; exact hlen), y, hcls, ρ'.set i none, L', s', RepE.drop re i _, rs, ?_⟩
          have h4 := PostS.from_ e h3
          match q2 : su y (ρ'.set i none) s', h4 with
          | some (.nx ρ2, s2), h4 => exact fun σ2 L2 H2 e2 rs2 re2 => h4 _ L2 H2 e2 rs2 (RepE.drop re2 i none)
          | some (.bk ρ2, s2), h4 => exact fun σ2 L2 H2 e2 rs2 re2 => h4 _ L2 H2 e2 rs2 (RepE.drop re2 i none)
          | some (.ct ρ2, s2), h4 => exact fun σ2 L2 H2 e2 rs2 re2 => h4 _ L2 H2 e2 rs2 (RepE.drop re2 i none)
          | some (.rt d, s2), h4 => exact h4
          | some (.xc _ _, _), h4 => exact h4.elim
          | none, h4 => exact h4
        · exact h3.elim
      · subst hb
        exact h3 cls σ' L' H' hcls e rs re
end
end Z

set_option Elab.async false
set_option linter.all false
set_option maxRecDepth 100000
set_option maxHeartbeats 4000000
/-! ZErr: what a suite asks of the error it holds. -/
namespace Z
open PySem L2
def vC (vs : List V) : TA := fun _ H Q => Q vs H
section
variable {X : Cx}
theorem oc_nil : PA X [] (vC []) := pa_nil
theorem oc_cons {x : Str} {C : Addr} {es : List Expr} {vs : List V} {p : Pos} (hm : X.mg x = some (.ref C)) (hr : PA X es (vC vs)) (hg : Gl X x := by rfl) (hd : (x == ("__debug__" : Str)) = false := by decide)
    (hs : starEach (.Name x p :: es) X.env = (false, eval (.Name x p) X.env) :: starEach es X.env := by rfl) : PA X (.Name x p :: es) (vC (.ref C :: vs)) := pa_cons (pe_glob (v := .ref C) hg hm rfl hd) hr hs
/-- isinstance(e, (C, ..)) of the error that the suite holds -/
theorem call_isET {a D : Addr} {oe : Obj} {pn : List (Addr × Obj)} (C : ExcC X.K D) (hz : Zc (.ref D) none oe) (hf : ∃ vs, oe.data = .fields vs) : CallR (X.suite a ((a, oe) :: pn)) (.builtin "isinstance")
    (fun xs H Q => ∃ (tp : Addr) (cs : List V) (us : List Value) (b : Bool), xs = [.ref a, .ref tp] ∧ H tp = some (.tup cs) ∧ Paired ClsV cs us ∧ PySem.W.kitAny X.K (.ref D) us = some b ∧ Q (.bl b) H) := by
  intro pins s σ H xs us Q I r h
  obtain ⟨tp, cs, ws, b, rfl, hT, k, e, q⟩ := h
  obtain ⟨u1, u2, rfl, r1, r2⟩ := vals2 r
  have e1 : u1 = Value.ref a := r1
  have e2 : u2 = Value.ref tp := r2
  subst e1 e2
  obtain ⟨hget, _⟩ := I.pin (a, oe) (List.mem_append.mpr (.inl List.mem_cons_self))
  obtain ⟨vs, hv⟩ := hf
  have J : PySem.W.InstAt s.heap a oe D none := by
    obtain ⟨c1, c2, c3, c4⟩ := oe
    obtain ⟨z1, z2⟩ := hz
    dsimp only at z1 z2 hv
    subst z1 z2 hv
    exact ⟨hget, rfl, rfl, trivial⟩
  obtain ⟨_, its, rv, o, h1, h2, n, h3⟩ := (show ObjOk (X.suite a ((a, oe) :: pn)).prog (X.suite a ((a, oe) :: pn)).w H s.heap tp (.tup cs) from I.hok tp _ hT)
  have e3 := ClsV.all k rv
  subst e3
  obtain ⟨oc, od, dt, sl⟩ := o
  simp only at h2 h3
  subst h2 h3
  exact PySem.W.kia_tup (PySem.W.handS_kitx_exc C.hg C.hk C.hs C.hd C.ha C.hn C.ht C.hm) I.kIn J h1 e (fun z => nomatch z) fun tk => ⟨.bl b, H, I.tok tk, rfl, q⟩
/-- return not isinstance(e, (C, ..)) -/
theorem s_retNotIs {a D : Addr} {oe : Obj} {pn : List (Addr × Obj)} {i : Nat} {n : Str} {es : List Expr} {k : Nat} {vs : List V} {us : List Value} {b : Bool} {p p2 pos pos' pos2 tpos : Pos} (C : ExcC X.K D) (hz : Zc (.ref D) none oe) (hf : ∃ vs, oe.data = .fields vs)
    (hmi : X.mg "isinstance" = none) (hes : PA (X.suite a ((a, oe) :: pn)) es (vC vs)) (hl : vs.length ≤ 100) (hk : Paired ClsV vs us) (hb : PySem.W.kitAny X.K (.ref D) us = some b) (hi : X.N[i]? = some n := by rfl) (hv : Vis X.env.scope n := by first | exact Or.inl rfl | exact Or.inr (Or.inl rfl))
    (hgi : Gl X "isinstance" := by rfl) (hd : (n == ("__debug__" : Str)) = false := by decide) (hcd : (n == ("__classdict__" : Str)) = false := by decide)
    (hs : starEach [.Name n p2, .Tuple es k tpos] X.env = (false, eval (.Name n p2) X.env) :: starEach [.Tuple es k tpos] X.env := by rfl) (hs2 : starEach [.Tuple es k tpos] X.env = (false, eval (.Tuple es k tpos) X.env) :: starEach [] X.env := by rfl)
    (hpl : (backTo pos (starEach [.Tuple es k tpos] X.env)).any (·.1) = false := by rfl) :
    PS (X.suite a ((a, oe) :: pn)) (.Return (some (.UnaryOp .Not (.Call (.Name "isinstance" p) [.Name n p2, .Tuple es k tpos] [] pos) pos')) pos2) (fun D σ H => σ[i]? = some (some (.ref a)) ∧ tS X W0 (mRet (mC (.bl (!b)))) D σ H) := by
  have ke := pe_callB (pos := pos) (p := p) (x := "isinstance") (call_isET (pn := pn) C hz hf) (show Gl (X.suite a ((a, oe) :: pn)) "isinstance" from hgi) hmi (by decide +kernel) (pa_cons (pe_var (X := X.suite a ((a, oe) :: pn)) (i := i) (x := n) (pos := p2) hi hv hd hcd) (pa_cons (pe_tup (pos := tpos) hes) pa_nil hs2) hs) (by decide) (by decide) hs hpl
  refine (ps_ret (pe_notT ke)).imp fun D σ H ⟨h0, ρ, L, s, h1, h2, h3⟩ => ?_
  refine ⟨.ref a, h0, ?_⟩
  refine ⟨lim_line (by unfold lim; omega), fun tp htp => ?_⟩
  refine ⟨tp, vs, us, b, rfl, upd_same, hk, hb, b, rfl, ?_⟩
  exact h3 (.bl (!b)) L _ (Ext.other htp) (h2.other htp) rfl
end
end Z

set_option Elab.async false
set_option linter.all false
set_option maxRecDepth 100000
set_option maxHeartbeats 4000000
/-! ZPar: a, b, c = x, y, z; small helpers of the printed walks. -/
namespace Z
open PySem L2 PySem.Spec PyProof.Rows
def FUEL : Nat := 1000000
def gAddI : D → D → S → R D := fun x y s => match x, y with
  | .int i, .int j => .ok (.int (i + j)) s
  | _, _ => .bad
theorem q_addI {X : Cx} : IpF X .Add gAddI := q_add
def mPar3 (i j k : Nat) (m : M (List D)) : MS := fun ρ s => (m ρ s).st ρ fun ds s1 => match ds with
  | [a, b, c] => some (.nx (((ρ.set i (some a)).set j (some b)).set k (some c)), s1)
  | _ => none
section
variable {X : Cx} {W : WX} {ml : M (List D)} {pos : Pos}
theorem s_par3 {i j k : Nat} {x y z : Str} {ea eb ec : Expr} {px py pz pt : Pos} {kt k2 pt2} (hc : X.calm = true) (hN : X.N.Nodup) (hi : X.N[i]? = some x) (hj : X.N[j]? = some y) (hk : X.N[k]? = some z) (hij : i ≠ j) (hik : i ≠ k) (hjk : j ≠ k)
    (hx : X.env.scope.names.lookup x = some .local) (hy : X.env.scope.names.lookup y = some .local) (hz : X.env.scope.names.lookup z = some .local) (ha : PA X [ea, eb, ec] (tA X W ml))
    (hw : swappedStores [.Tuple [.Name x px, .Name y py, .Name z pz] kt pt] (.Tuple [ea, eb, ec] k2 pt2) X.env = pure (some [x, y, z]))
    (hs : swapsWithSole [.Tuple [.Name x px, .Name y py, .Name z pz] kt pt] (.Tuple [ea, eb, ec] k2 pt2) pos.line X.env = pure false := by rfl) :
    PS X (.Assign [.Tuple [.Name x px, .Name y py, .Name z pz] kt pt] (.Tuple [ea, eb, ec] k2 pt2) pos) (tS X W (mPar3 i j k ml)) := by
  refine ⟨fun pins sh σ H D I ⟨ρ, L, s, h1, h2, h3⟩ => ?_⟩
  rw [exec_Assign_arm, hs]
  refine wpAny_bind (wpAny_standAt (wpAny_bind (wpAny_pure ?_)))
  rw [if_neg Bool.false_ne_true]
  have go : tA X W ml σ H fun vs H1 => ∃ ds L1 s1, Ext L H L1 H1 ∧ RepE X.K L1 H1 ρ σ ∧ RepS X.z L1 s1 H1 ∧ RepVs X.K L1 H1 ds vs ∧ PostS X.z W D L1 H1 (match ds with
      | [a, b, c] => some (.nx (((ρ.set i (some a)).set j (some b)).set k (some c)), s1)
      | _ => none) := ⟨ρ, L, s, h1, h2, PostS.bind (rep := RepVs X.K) h1 h2 h3⟩
  refine wpAny_bind (PyProof.Rows.Tuple_ (thn (ha.run _ pins sh σ H _ I go) fun us sh1 ⟨vs, H1, I1, ru, ds, L1, s1, e1, re, rs, rv, p⟩ => ?_))
  match ds, rv, p with
  | [], _, p => exact p.elim
  | [_], _, p => exact p.elim
  | [_, _], _, p => exact p.elim
  | _ :: _ :: _ :: _ :: _, _, p => exact p.elim
  | [d1, d2, d3], rv, p =>
    obtain ⟨v1, _, rfl, q1, rv⟩ := rv
    obtain ⟨v2, _, rfl, q2, rv⟩ := rv
    obtain ⟨v3, _, rfl, q3, rv⟩ := rv
    cases rv
    obtain ⟨u1, u2, u3, rfl, r1, r2, r3⟩ : ∃ u1 u2 u3, us = [u1, u2, u3] ∧ RelV v1 u1 ∧ RelV v2 u2 ∧ RelV v3 u3 := by
      rcases ru with _ | ⟨a1, _ | ⟨a2, _ | ⟨a3, _ | _⟩⟩⟩
      exact ⟨_, _, _, rfl, a1, a2, a3⟩
    refine wpAny_newObj_type ?_ (by show 3 ≤ sizeLine; decide)
    have I2 : Inv X pins σ H1 { sh1 with heap := sh1.heap.push { cls := .type "tuple", data := .seq [u1, u2, u3].toArray } } := I1.kept (t' := sh1.toks) fun _ _ h => Heap.get?_push_of_some _ h
    rw [hw]
    refine wpAny_bind (wpAny_pure ?_)
    show wpAny (model X.prog X.w) X.A (do rule "assign.swapped-stores"; let items ← unpackItems (.ref sh1.heap.objs.size) 3 none; assignInOrder [fun v => bindName X.env z v, fun v => bindName X.env y v, fun v => bindName X.env x v] items.reverse; pure Flow.next) _ _ _
    refine wpAny_bind (wpAny_rule (wpAny_bind (PyProof.Rows.unpackItems_tuple (items := #[u1, u2, u3]) (I.ok.hd hc) (IsTup.new sh1.heap _) fun hp' hx' => ?_)))
    have I3 := I2.kept (h' := hp') (t' := sh1.toks) fun b o h => hx' b o (Nat.ne_of_lt (Heap.lt_size h)) h
    show wpAny _ _ (assignInOrder [fun v => bindName X.env z v, fun v => bindName X.env y v, fun v => bindName X.env x v] [u3, u2, u1] >>= fun _ => pure Flow.next) _ _ _
    refine wpAny_bind (assignInOrder_cons (wpAny_bindName (store_ok I3 hN hk (.inl hz) r3 (fun sa I4 => ?_) (.inr hz))))
    refine assignInOrder_cons (wpAny_bindName (store_ok I4 hN hj (.inl hy) r2 (fun sb I5 => ?_) (.inr hy)))
    refine assignInOrder_cons (wpAny_bindName (store_ok I5 hN hi (.inl hx) r1 (fun sc I6 => assignInOrder_nil (wpAny_pure ?_)) (.inr hx)))
    have e : (((σ.set k (some v3)).set j (some v2)).set i (some v1)) = (((σ.set i (some v1)).set j (some v2)).set k (some v3)) := by
      rw [List.set_comm _ _ (Ne.symm hij), List.set_comm _ _ (Ne.symm hik), List.set_comm _ _ (Ne.symm hjk)]
    rw [e] at I6
    exact ⟨_, H1, I6, p.done_nx (((re.set i q1).set j q2).set k q3) rs⟩
end
theorem C.tr {X : Cx} {W W' : WX} {k : Nat} (c : C X W k) {pn : List (Addr × Obj)} {xe : Value → Shared → Prop} (tk : Takes (X.tr pn xe) W') (hp : PassesOwn (model X.prog X.w) X.A X.env xe) : C (X.tr pn xe) W' k := ⟨tk, hp, c.calm, c.nd, c.rm⟩
theorem hit_self {K : PySem.W.Frag} {mg : Str → Option Value} {x : Str} {C : Addr} (E : ExcN K mg x C) (h : PySem.W.subIn K (.ref C) (.ref C) = some true) (y : Str) (cls : Value) (b : Bool) (e : (if y = x then some true else none) = some b) (hm : mg y = some cls) : PySem.W.exmOne K cls (.ref C) = some b := by
  split at e
  · rename_i hy
    subst hy
    cases e
    rw [E.gC] at hm
    cases hm
    exact PySem.W.exm_ref E.sB E.ic.hd E.ty h
  · cases e
theorem su_is {X X' : Cx} {x y : Str} {cl : Value} {C : Addr} {mt : MS} {sts : List Stmt} {A : L2.St → Hp → Prop} (gC : X.mg x = some (.ref C)) (hy : X.mg y = some cl) (h : cl = .ref C → PSs X' sts (fun D σ H => A σ H ∧ tS X W0 mt D σ H)) :
    PSs X' sts (fun D σ H => A σ H ∧ tS X W0 ((fun z => if z = x then mt else fun _ _ => none) y) D σ H) := by
  refine ⟨fun pins s σ H D I ⟨h0, ρ, L, st, h1, h2, h3'⟩ => ?_⟩
  have h3 : PostS X.z W0 D L H ((if y = x then mt else fun _ _ => none) ρ st) := h3'
  clear h3'
  split at h3
  · rename_i e
    subst e
    rw [gC] at hy
    cases hy
    exact (h rfl).run pins s σ H D I ⟨h0, ρ, L, st, h1, h2, h3⟩
  · exact h3.elim
end Z

set_option Elab.async false
set_option linter.all false
set_option maxRecDepth 100000
set_option maxHeartbeats 4000000
/-! ZEnd: the law's own head. -/
namespace Z
open PySem L2
theorem walk {l : PySem.W.OpenLaw} {k : Nat} {q : Program} {loose : List Str} {XP : (Str → Option Value) → Heap → Prop} {YP : World → Heap → Prop} {d : DefRec} {K : Params → PySem.W.Frag} {g : F} (hn : l.most = some 63) (hdf : d.params.defaults = []) (hr : Room k callerA)
    (hY : ∀ (w : World) (h : Heap), YP w h → (K w.params).In h)
    (Fn : ∀ (w : World) (mg : Str → Option Value) (fa : Addr) (h : Heap), (K w.params).In h → h.Ns mainGlobals mg → mg d.name = some (.ref fa) →
      ∃ fd : FuncData, (∀ (s : Shared) (u : Value), BindsTo s fd ⟨[u], []⟩ [("script", u)]) ∧ ∀ base : Heap, (K w.params).In base → base.Ns mainGlobals mg → FnOk l.prog w (K w.params) mg base (L2.CX l.prog w) k fa fd ["script"] (spOf ⟨l.prog, w, K w.params, mg⟩ g))
    (law : ∀ (a : Addr) (ns : List Int), ns.length ≤ 63 → ∃ s, g [.kl a ns] [] = .ok (.bl true) s) :
    PySem.W.WalkO q loose XP YP l.row.toRowW d [] (fun f vs => PySem.call f vs) := by
  refine L2.walk_of (n := 63) (k := k) (x := "script") (CX := fun w => L2.CX l.prog w) (sp := fun w => fun vs H Q E => ∃ a ns, vs = [.ref a] ∧ KL (K w.params) H a ns ∧ ns.length ≤ 63 ∧ ∀ H', Q (.bl true) H') hn (by decide) hdf hr hY (fun w mg fa h KX G hm => ?_) (fun w H a ns hl hO hS => ?_) fun _ _ _ _ _ z => ?_
  · obtain ⟨fd, h1, h2⟩ := Fn w mg fa h KX G hm
    refine ⟨fd, h1, fun base b1 b2 => (h2 base b1 b2).imp fun vs H Q E ⟨a, ns, e, hk, hl, hq⟩ => ?_⟩
    subst e
    obtain ⟨s, hs⟩ := law a ns hl
    refine ⟨[], [], [.kl a ns], ⟨rfl, List.nodup_nil, fun n b o h _ => by simp at h⟩, ⟨_, _, rfl, ⟨rfl, hk⟩, rfl⟩, ?_⟩
    rw [hs]
    intro v L' H' _ _ rv
    cases rv
    exact hq H'
  · refine ⟨a, ns, rfl, ?_, hl, fun _ => rfl⟩
    rcases hS with (h | ⟨o, h⟩) | h
    · rcases hO a with z | ⟨o, xs, z⟩
      · rw [h] at z; cases z
      · rw [h] at z; cases z
    · exact .inl ⟨o, h⟩
    · exact .inr h
  · obtain ⟨_, _, _, _, _, _, _, _, _, _, _, _, z⟩ := z
    exact z
end Z

set_option Elab.async false
set_option linter.all false
set_option maxRecDepth 100000
set_option maxHeartbeats 4000000
/-! ZSimp: the functions, applied. -/
namespace Z
open PySem L2
/-! what comes behind a statement -/
def seqK (r : Option (Fl × S)) (k : Ev → S → Option (Fl × S)) : Option (Fl × S) := match r with
  | some (.nx ρ, s) => k ρ s
  | r => r
def stepK (r : Option (Fl × S)) (k : Ev → S → Option (Fl × S)) : Option (Fl × S) := match r with
  | some (.nx ρ, s) => k ρ s
  | some (.ct ρ, s) => k ρ s
  | some (.bk ρ, s) => some (.nx ρ, s)
  | r => r
def retK (r : Option (Fl × S)) : R D := match r with
  | some (.nx _, s) => .ok .non s
  | some (.rt d, s) => .ok d s
  | some (.xc c _, s) => .exc c s
  | _ => .bad
section
variable {ρ : Ev} {s : S} {d : D} {x : Str} {k : Ev → S → Option (Fl × S)}
@[simp] theorem seqK_nx : seqK (some (.nx ρ, s)) k = k ρ s := rfl
@[simp] theorem seqK_bk : seqK (some (.bk ρ, s)) k = some (.bk ρ, s) := rfl
@[simp] theorem seqK_ct : seqK (some (.ct ρ, s)) k = some (.ct ρ, s) := rfl
@[simp] theorem seqK_rt : seqK (some (.rt d, s)) k = some (.rt d, s) := rfl
@[simp] theorem seqK_xc : seqK (some (.xc x ρ, s)) k = some (.xc x ρ, s) := rfl
@[simp] theorem seqK_no : seqK none k = none := rfl
@[simp] theorem stepK_nx : stepK (some (.nx ρ, s)) k = k ρ s := rfl
@[simp] theorem stepK_bk : stepK (some (.bk ρ, s)) k = some (.nx ρ, s) := rfl
@[simp] theorem stepK_ct : stepK (some (.ct ρ, s)) k = k ρ s := rfl
@[simp] theorem stepK_rt : stepK (some (.rt d, s)) k = some (.rt d, s) := rfl
@[simp] theorem stepK_xc : stepK (some (.xc x ρ, s)) k = some (.xc x ρ, s) := rfl
@[simp] theorem stepK_no : stepK none k = none := rfl
@[simp] theorem retK_nx : retK (some (.nx ρ, s)) = .ok .non s := rfl
@[simp] theorem retK_rt : retK (some (.rt d, s)) = .ok d s := rfl
@[simp] theorem retK_xc : retK (some (.xc x ρ, s)) = .exc x s := rfl
end
section
variable {ρ : Ev} {s s1 : S} {i j k : Nat} {d d1 d2 : D} {m ma mb mc mo : M D} {ml mr : M (List D)} {A B c : M Bool} {g g' : D → D → S → R D} {f : F} {a b : MS} {lo hi : M (Option Int)}
@[simp] theorem ap_var : mVar i ρ s = (match ρ[i]? with | some (some d) => .ok d s | _ => .bad) := rfl
@[simp] theorem ap_C : mC d ρ s = .ok d s := rfl
@[simp] theorem ap_bin : mBin g ma mb ρ s = (ma ρ s).bind fun x s1 => (mb ρ s1).bind fun y s2 => g x y s2 := rfl
@[simp] theorem ap_un {g : D → S → R D} : mUn g ma ρ s = (ma ρ s).bind g := rfl
@[simp] theorem ap_nil : mNil ρ s = .ok [] s := rfl
@[simp] theorem ap_cons : mCons ma mr ρ s = (ma ρ s).bind fun x s1 => (mr ρ s1).bind fun xs s2 => .ok (x :: xs) s2 := rfl
@[simp] theorem ap_tup : mTup ml ρ s = (ml ρ s).bind fun xs s1 => if xs.length ≤ lim then .ok (.tup xs) s1 else .bad := rfl
@[simp] theorem ap_lim : mLim ml ρ s = (ml ρ s).bind fun xs s1 => if xs.length ≤ lim then .ok xs s1 else .bad := rfl
@[simp] theorem ap_ref : mRef ml ρ s = (ml ρ s).bind fun xs s1 => .ok (.ref s1.length) (s1 ++ [.lst xs]) := rfl
@[simp] theorem ap_dct {t : Bool} : mDct t ρ s = .ok (.ref s.length) (s ++ [.dct t false []]) := rfl
@[simp] theorem ap_seq : mSeq m ρ s = (m ρ s).bind fun d s1 => R.of (seqD s1 d) s1 := rfl
@[simp] theorem ap_lstV : mLstV m ρ s = (m ρ s).bind fun d s1 => match d with | .ref n => R.of (lstAt s1 n) s1 | _ => .bad := rfl
@[simp] theorem ap_tmp {g : List D → Option (List D)} : mTmp g ml ρ s = (ml ρ s).bind fun ds s1 => R.of (g ds) s1 := rfl
@[simp] theorem of_some {α : Type} {a : α} : R.of (some a) s = .ok a s := rfl
@[simp] theorem of_none {α : Type} : (R.of none s : R α) = .bad := rfl
@[simp] theorem ap_tru : mTru m ρ s = (m ρ s).bind fun d s1 => R.of (truD s1 d) s1 := rfl
@[simp] theorem ap_B : mB m ρ s = (m ρ s).bind blD := rfl
@[simp] theorem ap_blD {b : Bool} : blD (.bl b) s = .ok b s := rfl
@[simp] theorem ap_andB : mAndB A B ρ s = (A ρ s).bind fun c s1 => if c = true then B ρ s1 else .ok false s1 := rfl
@[simp] theorem ap_orB : mOrB A B ρ s = (A ρ s).bind fun c s1 => if c = true then .ok true s1 else B ρ s1 := rfl
@[simp] theorem ap_notB : mNotB A ρ s = (A ρ s).bind fun c s1 => .ok (!c) s1 := rfl
@[simp] theorem ap_and : mAnd ma mb ρ s = (ma ρ s).bind fun x s1 => match truD s1 x with | some true => mb ρ s1 | some false => .ok x s1 | none => .bad := rfl
@[simp] theorem ap_or : mOr ma mb ρ s = (ma ρ s).bind fun x s1 => match truD s1 x with | some true => .ok x s1 | some false => mb ρ s1 | none => .bad := rfl
@[simp] theorem ap_not : mNot ma ρ s = (ma ρ s).bind fun x s1 => R.of ((truD s1 x).map fun c => .bl (!c)) s1 := rfl
@[simp] theorem ap_if : mIf c ma mb ρ s = (c ρ s).bind fun k s1 => if k = true then ma ρ s1 else mb ρ s1 := rfl
@[simp] theorem ap_chain : mChain g g' ma mb mc ρ s = (ma ρ s).bind fun x s1 => (mb ρ s1).bind fun y s2 => (g x y s2).bind fun z s3 => match z with
  | .bl true => (mc ρ s3).bind fun w s4 => g' y w s4
  | .bl false => .ok (.bl false) s3
  | _ => .bad := rfl
@[simp] theorem ap_noPart : mNoPart ρ s = .ok none s := rfl
@[simp] theorem ap_part : mPart m ρ s = (m ρ s).bind fun d s1 => match d with | .int i => .ok (some i) s1 | _ => .bad := rfl
@[simp] theorem ap_sl : mSl m lo hi ρ s = (m ρ s).bind fun x s1 => (lo ρ s1).bind fun l s2 => (hi ρ s2).bind fun h s3 => gSl x l h s3 := rfl
@[simp] theorem ap_ixL : mIxL ml m ρ s = (ml ρ s).bind fun ds s1 => (m ρ s1).bind fun i s2 => match i with | .int k => R.of (atI ds k) s2 | _ => .bad := rfl
@[simp] theorem ap_call : mCall f ml ρ s = (ml ρ s).bind f := rfl
@[simp] theorem ap_call0 : mCall0 f ρ s = f [] s := rfl
@[simp] theorem ap_meth {T : String} {g : D → List D → S → R D} : mMeth T g mo ml ρ s = (mo ρ s).bind fun x s1 => if tyB T s1 x = true then (ml ρ s1).bind fun ds s2 => g x ds s2 else .bad := rfl
@[simp] theorem ap_isi {cs : List String} : mIsi m cs ρ s = (m ρ s).bind fun d s1 => R.of ((tyName s1 d).map fun t => .bl (cs.any fun c => isaB t c)) s1 := rfl
/-! statements -/
@[simp] theorem ap_nx : mNx ρ s = some (.nx ρ, s) := rfl
@[simp] theorem ap_bk : mBk ρ s = some (.bk ρ, s) := rfl
@[simp] theorem ap_ct : mCt ρ s = some (.ct ρ, s) := rfl
@[simp] theorem ap_sq : mSq a b ρ s = seqK (a ρ s) b := rfl
@[simp] theorem ap_set : mSet i m ρ s = (m ρ s).st ρ fun d s1 => some (.nx (ρ.set i (some d)), s1) := rfl
@[simp] theorem ap_ret : mRet m ρ s = (m ρ s).st ρ fun d s1 => some (.rt d, s1) := rfl
@[simp] theorem ap_retN : mRetN ρ s = some (.rt .non, s) := rfl
@[simp] theorem ap_drop : mDrop m ρ s = (m ρ s).st ρ fun _ s1 => some (.nx ρ, s1) := rfl
@[simp] theorem ap_ifS : mIfS c a b ρ s = (c ρ s).st ρ fun k s1 => if k = true then a ρ s1 else b ρ s1 := rfl
@[simp] theorem ap_asg {g : G} : mAsg g m ρ s = (m ρ s).st ρ fun d s1 => (g d ρ s1).st ρ fun ρ' s2 => some (.nx ρ', s2) := rfl
@[simp] theorem ap_par : mPar i j ml ρ s = (ml ρ s).st ρ fun ds s1 => match ds with | [a, b] => some (.nx ((ρ.set i (some a)).set j (some b)), s1) | _ => none := rfl
@[simp] theorem ap_par3 : mPar3 i j k ml ρ s = (ml ρ s).st ρ fun ds s1 => match ds with | [a, b, c] => some (.nx (((ρ.set i (some a)).set j (some b)).set k (some c)), s1) | _ => none := rfl
@[simp] theorem ap_aug : mAug i g m ρ s = (match ρ[i]? with | some (some x) => (m ρ s).st ρ fun y s1 => (g x y s1).st ρ fun d s2 => some (.nx (ρ.set i (some d)), s2) | _ => none) := rfl
@[simp] theorem ap_gP {p : Gp} {d : D} : gP p d ρ s = R.of (p d ρ) s := rfl
@[simp] theorem ap_pNm {d : D} : pNm i d ρ = some (ρ.set i (some d)) := rfl
@[simp] theorem ap_gSb {d : D} : gSb ma mb d ρ s = (ma ρ s).bind fun x s1 => (mb ρ s1).bind fun i s2 => match gPut x i d s2 with | some s3 => .ok ρ s3 | none => .bad := rfl
@[simp] theorem ap_raise {x : Str} : mRaise x ρ s = some (.xc x ρ, s) := rfl
@[simp] theorem ap_srcV : mSrcV m ρ s = (m ρ s).bind fun d s1 => match d with
  | .tup ds => .ok (.fix ds) s1
  | .ref n => match lstAt s1 n with
    | some ds => .ok (.chk n ds) s1
    | none => .bad
  | .kl _ ns => .ok (.fix (ns.map D.int)) s1
  | _ => .bad := rfl
@[simp] theorem ap_srcL : mSrcL ml ρ s = (ml ρ s).bind fun ds s1 => .ok (.fix ds) s1 := rfl
@[simp] theorem ap_range1 : mRange1 m ρ s = (m ρ s).bind fun d s1 => match d with | .int j => if rg j then .ok (.fix (rangeD 0 j.toNat)) s1 else .bad | _ => .bad := rfl
@[simp] theorem ap_range2 : mRange2 ma mb ρ s = (ma ρ s).bind fun d s1 => (mb ρ s1).bind fun d' s2 => match d, d' with | .int i, .int j => if rg i && rg j then .ok (.fix (rangeD i (j - i).toNat)) s2 else .bad | _, _ => .bad := rfl
@[simp] theorem ap_for {mi : M Src} {g : G} : mFor mi g b ρ s = (mi ρ s).st ρ fun src s1 => forF src.ok g b src.items ρ s1 := rfl
@[simp] theorem ap_lc {mi : M Src} {g : Gp} {vs : List Nat} {tt : M Bool} {te : M D} : mLc mi g vs tt te ρ s = (mi ρ s).bind fun src s1 => lcF src.ok g tt te (wipeD ρ vs) src.items [] s1 := rfl
@[simp] theorem ap_yes : mYes ρ s = .ok true s := rfl
@[simp] theorem items_fix {ds : List D} : (Src.fix ds).items = ds := rfl
@[simp] theorem items_chk {n : Nat} {ds : List D} : (Src.chk n ds).items = ds := rfl
@[simp] theorem ok_fix {ds : List D} : (Src.fix ds).ok s = true := rfl
@[simp] theorem lcF_nil {ok : S → Bool} {g : Gp} {tt : M Bool} {te : M D} {acc : List D} (h : ok s = true) : lcF ok g tt te ρ [] acc s = .ok acc s := by unfold lcF; rw [if_pos h]
theorem lcF_cons {ok : S → Bool} {g : Gp} {tt : M Bool} {te : M D} {acc ds : List D} (h : ok s = true) : lcF ok g tt te ρ (d :: ds) acc s = (match g d ρ with
      | some ρ1 => (tt ρ1 s).bindN fun k s2 => if k = true then (te ρ1 s2).bindN fun y s3 => if acc.length < lim then lcF ok g tt te ρ ds (acc ++ [y]) s3 else .bad else lcF ok g tt te ρ ds acc s2
      | none => .bad) := by
  rw [lcF, if_pos h]
  all_goals (cases g d ρ <;> rfl)
@[simp] theorem forF_nil {ok : S → Bool} {g : G} (h : ok s = true) : forF ok g b [] ρ s = some (.nx ρ, s) := by unfold forF; rw [if_pos h]
theorem forF_cons {ok : S → Bool} {g : G} {ds : List D} (h : ok s = true) : forF ok g b (d :: ds) ρ s = (g d ρ s).st ρ fun ρ1 s1 => stepK (b ρ1 s1) (forF ok g b ds) := by
  show (if ok s = true then _ else _) = _
  rw [if_pos h]
  rfl
theorem whileF_succ : whileF c b (k + 1) ρ s = (c ρ s).st ρ fun t s1 => if t = true then stepK (b ρ s1) (whileF c b k) else some (.nx ρ, s1) := rfl
theorem runF_eq {n N : Nat} {mm : MS} {ds : List D} (h : ds.length = n) : runF n N mm ds s = retK (mm (ds.map some ++ List.replicate (N - n) none) s) := by
  unfold runF
  rw [if_pos h]
  rfl
end
/-! the operators -/
section
variable {s : S} {i j k : Int} {n m : Nat} {a b : Bool} {x y : Str} {d : D} {ds es : List D} {kvs : List (D × D)} {t lk : Bool} {ad : Addr} {ns : List Int}
@[simp] theorem gAdd_i : gAdd (.int i) (.int j) s = .ok (.int (i + j)) s := rfl
@[simp] theorem gAddI_i : gAddI (.int i) (.int j) s = .ok (.int (i + j)) s := rfl
@[simp] theorem gAdd_s : gAdd (.str x) (.str y) s = if x.length + y.length ≤ lim then .ok (.str (x ++ y)) s else .bad := rfl
@[simp] theorem gAdd_t : gAdd (.tup ds) (.tup es) s = if ds.length + es.length ≤ lim then .ok (.tup (ds ++ es)) s else .bad := rfl
@[simp] theorem gSub_i : gSub (.int i) (.int j) s = .ok (.int (i - j)) s := rfl
@[simp] theorem gMul_i : gMul (.int i) (.int j) s = if CM i j then .ok (.int (i * j)) s else .bad := rfl
@[simp] theorem gFdv_i : gFdv (.int i) (.int j) s = if CDv i j then .ok (.int (i / j)) s else .bad := rfl
@[simp] theorem gMod_i : gMod (.int i) (.int j) s = if 0 < j then .ok (.int (i % j)) s else .bad := rfl
@[simp] theorem gShl_i : gShl (.int i) (.int j) s = if CSh i j then .ok (.int (i * 2 ^ j.toNat)) s else .bad := rfl
@[simp] theorem gPow_i : gPow (.int i) (.int j) s = if CSh i j then .ok (.int (i ^ j.toNat)) s else .bad := rfl
@[simp] theorem gShr_i : gShr (.int i) (.int j) s = if 0 ≤ j then .ok (.int (i / 2 ^ j.toNat)) s else .bad := rfl
@[simp] theorem gAnd_i : gAnd (.int i) (.int j) s = .ok (.int (Builtin.bitAnd i j)) s := rfl
@[simp] theorem gOr_i : gOr (.int i) (.int j) s = .ok (.int (Builtin.bitOr i j)) s := rfl
@[simp] theorem gXor_i : gXor (.int i) (.int j) s = .ok (.int (Builtin.bitXor i j)) s := rfl
@[simp] theorem gNeg_i : gNeg (.int i) s = .ok (.int (-i)) s := rfl
@[simp] theorem gCmp_i {p : Int → Int → Bool} {q : List Nat → List Nat → Bool} : gCmp p q (.int i) (.int j) s = .ok (.bl (p i j)) s := rfl
@[simp] theorem gIs_n : gIs d .non s = .ok (.bl (decide (d = .non))) s := by cases d <;> rfl
@[simp] theorem gIsNot_n : gIsNot d .non s = .ok (.bl (!decide (d = .non))) s := by cases d <;> rfl
@[simp] theorem gInt_i : gInt [.int i] s = .ok (.int i) s := rfl
@[simp] theorem gMax2_i : gMax2 [.int i, .int j] s = .ok (.int (if j > i then j else i)) s := rfl
@[simp] theorem gMin2_i : gMin2 [.int i, .int j] s = .ok (.int (if j < i then j else i)) s := rfl
@[simp] theorem gAbs_i : gAbs [.int i] s = .ok (.int (if i < 0 then -i else i)) s := rfl
@[simp] theorem gLen_t : gLen [.tup ds] s = .ok (.int ds.length) s := rfl
@[simp] theorem gLen_k : gLen [.kl ad ns] s = .ok (.int ns.length) s := rfl
theorem gLen_r (h : s[n]? = some (.lst ds)) : gLen [.ref n] s = .ok (.int ds.length) s := by simp [gLen, h, O.items]
theorem gIx_r (h : s[n]? = some (.lst ds)) : gIx (.ref n) (.int i) s = R.of (atI ds i) s := by simp [gIx, h, gIxO, O.items]
@[simp] theorem gIx_t : gIx (.tup ds) (.int i) s = R.of (atI ds i) s := rfl
theorem gIx_d (h : s[n]? = some (.dct t lk kvs)) : gIx (.ref n) d s = if keyOk t d then R.of (kget kvs d) s else .bad := by simp [gIx, h]
theorem gPut_l (h : s[n]? = some (.lst ds)) : gPut (.ref n) (.int i) d s = (ixN ds.length i).map fun j => s.set n (.lst (ds.set j d)) := by simp [gPut, h, gPutO, Option.map_map]; rfl
theorem gPut_d {v : D} (h : s[n]? = some (.dct t false kvs)) (hk : keyOk t d = true) (hl : kvs.length < lim) : gPut (.ref n) d v s = some (s.set n (.dct t false (kput kvs d v))) := by
  show (s[n]?.bind fun o => (gPutO o d v).map fun o' => s.set n o') = _
  rw [h]
  show ((if keyOk t d ∧ kvs.length < lim then some (O.dct t false (kput kvs d v)) else none).map fun o' => s.set n o') = _
  rw [if_pos ⟨hk, hl⟩]; rfl
theorem gIn_d {neg : Bool} (h : s[n]? = some (.dct t lk kvs)) (hk : keyOk t d = true) : gIn neg d (.ref n) s = .ok (.bl (neg ^^ (kget kvs d).isSome)) s := by cases d <;> simp [gIn, h, hk]
theorem lstAt_l (h : s[n]? = some (.lst ds)) : lstAt s n = some ds := by simp [lstAt, h, O.items]
theorem wlAt_l (h : s[n]? = some (.lst ds)) : wlAt s n = some ds := by unfold wlAt; rw [h]
theorem tyB_l (h : s[n]? = some (.lst ds)) : tyB "list" s (.ref n) = true := by simp [tyB, lstAt_l h]
theorem gAppend_l (h : s[n]? = some (.lst ds)) (hl : ds.length < lim) : gAppend (.ref n) [d] s = .ok .non (s.set n (.lst (ds ++ [d]))) := by simp [gAppend, wlAt_l h, hl]
theorem gPop0_l (h : s[n]? = some (.lst (d :: ds))) : gPopAt (.ref n) [.int 0] s = .ok d (s.set n (.lst ds)) := by simp [gPopAt, wlAt_l h, seqIndex?]
@[simp] theorem truD_b : truD s (.bl a) = some a := rfl
@[simp] theorem truD_i : truD s (.int i) = some (i != 0) := rfl
@[simp] theorem truD_n : truD s .non = some false := rfl
@[simp] theorem truD_t : truD s (.tup ds) = some (!ds.isEmpty) := rfl
@[simp] theorem ty_i : tyName s (.int i) = some "int" := rfl
@[simp] theorem ty_b : tyName s (.bl a) = some "bool" := rfl
@[simp] theorem ty_t : tyName s (.tup ds) = some "tuple" := rfl
@[simp] theorem ty_s : tyName s (.str x) = some "str" := rfl
@[simp] theorem ty_n : tyName s .non = some "NoneType" := rfl
theorem ty_l (h : s[n]? = some (.lst ds)) : tyName s (.ref n) = some "list" := by simp [tyName, h]
@[simp] theorem seqD_t : seqD s (.tup ds) = some ds := rfl
@[simp] theorem seqD_k : seqD s (.kl ad ns) = some (ns.map D.int) := rfl
end
/-- it answers, and so -/
def Ok {α : Type} (r : R α) (P : α → S → Prop) : Prop := match r with
  | .ok a s => P a s
  | _ => False
@[simp] theorem Ok_ok {α : Type} {a : α} {s : S} {P : α → S → Prop} : Ok (.ok a s) P = P a s := rfl
@[simp] theorem Ok_exc {α : Type} {c : Str} {s : S} {P : α → S → Prop} : Ok (.exc c s : R α) P = False := rfl
@[simp] theorem Ok_bad {α : Type} {P : α → S → Prop} : Ok (.bad : R α) P = False := rfl
theorem Ok.ex {α : Type} {r : R α} {P : α → S → Prop} (h : Ok r P) : ∃ a s, r = .ok a s ∧ P a s := by
  cases r with
  | ok a s => exact ⟨a, s, rfl, h⟩
  | exc c s => exact h.elim
  | bad => exact h.elim
theorem Ok.mono {α : Type} {r : R α} {P Q : α → S → Prop} (h : Ok r P) (hq : ∀ a s, P a s → Q a s) : Ok r Q := by
  obtain ⟨a, s, rfl, h⟩ := h.ex
  exact hq a s h
end Z

set_option Elab.async false
set_option linter.all false
set_option maxRecDepth 100000
set_option maxHeartbeats 4000000
namespace K61
open PySem L2 Z
/-! what the defs do; r: what the defs do that are called -/
/-- level_of -/
def b_0 (r : Nat → F) : MS := (mSq (mSet 1 (mC (.int 1)))
  (mSq (whileF (mTru (mBin gShr (mVar 0) (mVar 1)))
  (mAug 1 gMul (mC (.int 2))) FUEL)
  (mRet (mVar 1))))
/-- nim_product -/
def b_1 (r : Nat → F) : MS := (mSq (mIfS (mOrB (mB (mBin gLt (mVar 0) (mC (.int 2)))) (mB (mBin gLt (mVar 1) (mC (.int 2)))))
  (mRet (mBin gMul (mVar 0) (mVar 1)))
  mNx)
  (mSq (mSet 2 (mBin gFdv (mCall (r 0) (mCons (mCall gMax2 (mCons (mVar 0) (mCons (mVar 1) mNil))) mNil)) (mC (.int 2))))
  (mSq (mSet 3 (mBin gSub (mBin gShl (mC (.int 1)) (mVar 2)) (mC (.int 1))))
  (mSq (mPar 7 8 (mCons (mBin gShr (mVar 0) (mVar 2)) (mCons (mBin gAnd (mVar 0) (mVar 3)) mNil)))
  (mSq (mPar 9 10 (mCons (mBin gShr (mVar 1) (mVar 2)) (mCons (mBin gAnd (mVar 1) (mVar 3)) mNil)))
  (mSq (mSet 4 (mCall (r 1) (mCons (mVar 8) (mCons (mVar 10) mNil))))
  (mSq (mSet 5 (mCall (r 1) (mCons (mVar 7) (mCons (mVar 9) mNil))))
  (mSq (mSet 6 (mBin gXor (mCall (r 1) (mCons (mBin gXor (mVar 7) (mVar 8)) (mCons (mBin gXor (mVar 9) (mVar 10)) mNil))) (mVar 4)))
  (mRet (mBin gXor (mBin gXor (mBin gShl (mVar 6) (mVar 2)) (mVar 4)) (mCall (r 1) (mCons (mVar 5) (mCons (mBin gShl (mC (.int 1)) (mBin gSub (mVar 2) (mC (.int 1)))) mNil)))))))))))))
/-- nim_power -/
def b_2 (r : Nat → F) : MS := (mSq (mSet 2 (mC (.int 1)))
  (mSq (whileF (mTru (mVar 1))
  (mSq (mIfS (mTru (mBin gMod (mVar 1) (mC (.int 2))))
  (mSet 2 (mCall (r 1) (mCons (mVar 2) (mCons (mVar 0) mNil))))
  mNx)
  (mSq (mSet 0 (mCall (r 1) (mCons (mVar 0) (mCons (mVar 0) mNil))))
  (mAug 1 gFdv (mC (.int 2))))) FUEL)
  (mRet (mVar 2))))
/-- nim_inverse -/
def b_3 (r : Nat → F) : MS := (mSq (mIfS (mB (mBin gEq (mVar 0) (mC (.int 0))))
  (mRaise "NoAnswer")
  mNx)
  (mRet (mIf (mB (mBin gGt (mVar 0) (mC (.int 1)))) (mCall (r 2) (mCons (mVar 0) (mCons (mBin gSub (mBin gShl (mC (.int 1)) (mCall (r 0) (mCons (mVar 0) mNil))) (mC (.int 2))) mNil))) (mC (.int 1)))))
/-- nim_root -/
def b_4 (r : Nat → F) : MS := (mSq (mFor (mRange1 (mBin gSub (mCall (r 0) (mCons (mVar 0) mNil)) (mC (.int 1)))) (gP (pNm 1))
  (mSet 0 (mCall (r 1) (mCons (mVar 0) (mCons (mVar 0) mNil)))))
  (mRet (mVar 0)))
/-- _law_box -/
def b_5 (r : Nat → F) : MS := (mRet (mRef (mLim (mCons (mRef (mTmp some (mSeq (mSl (mVar 0) mNoPart (mPart (mC (.int 63))))))) (mCons (mC (.int 0)) (mCons (mBin gAdd (mC (.int 4711)) (mCall gLen (mCons (mVar 0) mNil))) mNil))))))
/-- _law_load -/
def b_6 (r : Nat → F) : MS := (mSq (mSet 1 (mBin gIx (mVar 0) (mC (.int 0))))
  (mSq (mIfS (mB (mBin gGt (mCall gLen (mCons (mVar 1) mNil)) (mC (.int 0))))
  (mSq (mSet 4 (mCall gInt (mCons (mMeth "list" gPopAt (mVar 1) (mCons (mC (.int 0)) mNil)) mNil)))
  (mSq (mSet 5 (mIf (mB (mBin gGe (mVar 4) (mC (.int 0)))) (mBin gMul (mC (.int 2)) (mVar 4)) (mBin gSub (mBin gMul (mUn gNeg (mC (.int 2))) (mVar 4)) (mC (.int 1)))))
  (mSq (mIfS (mB (mBin gGe (mVar 5) (mC (.int 1000000000000000000))))
  (mRet (mVar 5))
  mNx)
  (mAsg (gSb (mVar 0) (mC (.int 2))) (mBin gMod (mCall gInt (mCons (mBin gAdd (mBin gAdd (mBin gMul (mBin gIx (mVar 0) (mC (.int 2))) (mC (.int 69621))) (mBin gMul (mVar 5) (mC (.int 48271)))) (mC (.int 11))) mNil)) (mC (.int 2147483647)))))))
  mNx)
  (mSq (mSet 2 (mBin gMod (mCall gInt (mCons (mBin gAdd (mBin gMul (mBin gIx (mVar 0) (mC (.int 2))) (mC (.int 48271))) (mC (.int 17))) mNil)) (mC (.int 2147483629))))
  (mSq (mSet 3 (mBin gMod (mCall gInt (mCons (mBin gAdd (mBin gMul (mVar 2) (mC (.int 69621))) (mC (.int 5))) mNil)) (mC (.int 2147483587))))
  (mSq (mAsg (gSb (mVar 0) (mC (.int 2))) (mBin gMod (mCall gInt (mCons (mBin gAdd (mBin gMul (mVar 3) (mC (.int 40692))) (mC (.int 3))) mNil)) (mC (.int 2147483563))))
  (mRet (mBin gAdd (mBin gAdd (mBin gMul (mVar 2) (mC (.int 4611686014132420609))) (mBin gMul (mVar 3) (mC (.int 2147483647)))) (mBin gIx (mVar 0) (mC (.int 2))))))))))
/-- _law_draw -/
def b_7 (r : Nat → F) : MS := (mSq (mIfS (mB (mBin gLt (mBin gIx (mVar 0) (mC (.int 1))) (mVar 1)))
  (mAsg (gSb (mVar 0) (mC (.int 1))) (mCall (r 6) (mCons (mVar 0) mNil)))
  mNx)
  (mSq (mSet 2 (mBin gMod (mCall gInt (mCons (mBin gIx (mVar 0) (mC (.int 1))) mNil)) (mVar 1)))
  (mSq (mAsg (gSb (mVar 0) (mC (.int 1))) (mBin gFdv (mBin gIx (mVar 0) (mC (.int 1))) (mVar 1)))
  (mRet (mVar 2)))))
/-- _law_same -/
def b_8 (r : Nat → F) : MS := (mSq (mIfS (mOrB (mAndB (mTru (mIsi (mVar 0) ["tuple"])) (mTru (mIsi (mVar 1) ["tuple"]))) (mAndB (mTru (mIsi (mVar 0) ["list"])) (mTru (mIsi (mVar 1) ["list"]))))
  (mRet (mAnd (mBin gEq (mCall gLen (mCons (mVar 0) mNil)) (mCall gLen (mCons (mVar 1) mNil))) (mCall gAll (mLc (mRange1 (mCall gLen (mCons (mVar 0) mNil))) (pNm 2) [2] mYes (mCall (r 8) (mCons (mBin gIx (mVar 0) (mVar 2)) (mCons (mBin gIx (mVar 1) (mVar 2)) mNil)))))))
  mNx)
  (mSq (mIfS (mOrB (mTru (mIsi (mVar 0) ["bool"])) (mTru (mIsi (mVar 1) ["bool"])))
  (mRet (mAnd (mIsi (mVar 0) ["bool"]) (mAnd (mIsi (mVar 1) ["bool"]) (mBin gEq (mVar 0) (mVar 1)))))
  mNx)
  (mSq (mIfS (mOrB (mAndB (mTru (mIsi (mVar 0) ["int"])) (mTru (mIsi (mVar 1) ["int"]))) (mAndB (mTru (mIsi (mVar 0) ["str"])) (mTru (mIsi (mVar 1) ["str"]))))
  (mRet (mBin gEq (mVar 0) (mVar 1)))
  mNx)
  (mRet (mAnd (mBin gIs (mVar 0) (mC .non)) (mBin gIs (mVar 1) (mC .non)))))))
/-- _law_product -/
def b_9 (r : Nat → F) : MS := (mSq (mIfS (mB (mBin (gIn true) (mTup (mCons (mVar 0) (mCons (mVar 1) mNil))) (mVar 2)))
  (mSq (mSet 3 (mDct false))
  (mSq (mFor (mRange1 (mVar 0)) (gP (pNm 4))
  (mFor (mRange1 (mVar 1)) (gP (pNm 6))
  (mAsg (gSb (mVar 3) (mBin gXor (mBin gXor (mCall (r 9) (mCons (mVar 4) (mCons (mVar 1) (mCons (mVar 2) mNil)))) (mCall (r 9) (mCons (mVar 0) (mCons (mVar 6) (mCons (mVar 2) mNil))))) (mCall (r 9) (mCons (mVar 4) (mCons (mVar 6) (mCons (mVar 2) mNil)))))) (mC (.bl true)))))
  (mSq (mSet 5 (mC (.int 0)))
  (mSq (whileF (mB (mBin (gIn false) (mVar 5) (mVar 3)))
  (mSet 5 (mBin gAdd (mVar 5) (mC (.int 1)))) FUEL)
  (mAsg (gSb (mVar 2) (mTup (mCons (mVar 0) (mCons (mVar 1) mNil)))) (mVar 5))))))
  mNx)
  (mRet (mBin gIx (mVar 2) (mTup (mCons (mVar 0) (mCons (mVar 1) mNil))))))
/-- _law_refused -/
def b_10 (r : Nat → F) : MS := (mSq (mTryAs (fun y => if y = "NoAnswer" then some true else none) 0
  (mDrop (mCall (r 3) (mCons (mC (.int 0)) mNil))) (fun y => if y = "NoAnswer" then mRet (mC (.bl true)) else fun _ _ => none))
  (mRet (mC (.bl false))))
/-- law -/
def b_11 (r : Nat → F) : MS := (mSq (mSet 1 (mCall (r 5) (mCons (mVar 0) mNil)))
  (mSq (mSet 2 (mDct true))
  (mSq (mFor (mRange1 (mC (.int 6))) (gP (pNm 3))
  (mSq (mPar 7 13 (mCons (mCall (r 7) (mCons (mVar 1) (mCons (mC (.int 16)) mNil))) (mCons (mCall (r 7) (mCons (mVar 1) (mCons (mC (.int 16)) mNil))) mNil)))
  (mIfS (mNotB (mTru (mCall (r 8) (mCons (mCall (r 1) (mCons (mVar 7) (mCons (mVar 13) mNil))) (mCons (mCall (r 9) (mCons (mVar 7) (mCons (mVar 13) (mCons (mVar 2) mNil)))) mNil)))))
  (mRet (mC (.bl false)))
  mNx)))
  (mSq (mFor (mSrcV (mTup (mCons (mC (.int 4)) (mCons (mC (.int 8)) (mCons (mC (.int 16)) (mCons (mIxL (mLim (mCons (mC (.int 32)) (mCons (mC (.int 64)) mNil))) (mCall (r 7) (mCons (mVar 1) (mCons (mC (.int 2)) mNil)))) mNil)))))) (gP (pNm 4))
  (mSq (mSet 8 (mBin gShl (mC (.int 1)) (mVar 4)))
  (mSq (mPar3 7 13 14 (mCons (mCall (r 7) (mCons (mVar 1) (mCons (mVar 8) mNil))) (mCons (mCall (r 7) (mCons (mVar 1) (mCons (mVar 8) mNil))) (mCons (mCall (r 7) (mCons (mVar 1) (mCons (mVar 8) mNil))) mNil))))
  (mSq (mSet 9 (mCall (r 1) (mCons (mVar 7) (mCons (mVar 13) mNil))))
  (mSq (mIfS (mOrB (mNotB (mTru (mCall (r 8) (mCons (mCall (r 1) (mCons (mVar 13) (mCons (mVar 7) mNil))) (mCons (mVar 9) mNil))))) (mOrB (mNotB (mB (mChain gLe gLt (mC (.int 0)) (mVar 9) (mVar 8)))) (mNotB (mTru (mCall (r 8) (mCons (mTup (mCons (mCall (r 1) (mCons (mVar 7) (mCons (mC (.int 1)) mNil))) (mCons (mCall (r 1) (mCons (mC (.int 0)) (mCons (mVar 13) mNil))) mNil))) (mCons (mTup (mCons (mVar 7) (mCons (mC (.int 0)) mNil))) mNil)))))))
  (mRet (mC (.bl false)))
  mNx)
  (mSq (mIfS (mOrB (mB (mBin gNe (mCall (r 1) (mCons (mVar 9) (mCons (mVar 14) mNil))) (mCall (r 1) (mCons (mVar 7) (mCons (mCall (r 1) (mCons (mVar 13) (mCons (mVar 14) mNil))) mNil))))) (mB (mBin gNe (mCall (r 1) (mCons (mVar 7) (mCons (mBin gXor (mVar 13) (mVar 14)) mNil))) (mBin gXor (mVar 9) (mCall (r 1) (mCons (mVar 7) (mCons (mVar 14) mNil)))))))
  (mRet (mC (.bl false)))
  mNx)
  (mSq (mSet 10 (mCall (r 4) (mCons (mVar 7) mNil)))
  (mSq (mIfS (mOrB (mNotB (mTru (mIsi (mVar 10) ["int"]))) (mOrB (mNotB (mB (mChain gLe gLt (mC (.int 0)) (mVar 10) (mVar 8)))) (mOrB (mB (mBin gNe (mCall (r 1) (mCons (mVar 10) (mCons (mVar 10) mNil))) (mVar 7))) (mNotB (mTru (mCall (r 8) (mCons (mCall (r 4) (mCons (mCall (r 1) (mCons (mVar 13) (mCons (mVar 13) mNil))) mNil)) (mCons (mVar 13) mNil))))))))
  (mRet (mC (.bl false)))
  mNx)
  (mIfS (mAndB (mB (mBin gLt (mVar 4) (mC (.int 33)))) (mB (mBin gGt (mVar 7) (mC (.int 0)))))
  (mSq (mSet 15 (mCall (r 3) (mCons (mVar 7) mNil)))
  (mIfS (mOrB (mNotB (mTru (mIsi (mVar 15) ["int"]))) (mOrB (mNotB (mB (mChain gLt gLt (mC (.int 0)) (mVar 15) (mVar 8)))) (mB (mBin gNe (mCall (r 1) (mCons (mVar 7) (mCons (mVar 15) mNil))) (mC (.int 1))))))
  (mRet (mC (.bl false)))
  mNx))
  mNx)))))))))
  (mSq (mSet 5 (mRef (mLc (mRange1 (mC (.int 6))) (pNm 16) [16] mYes (mBin gShl (mC (.int 1)) (mBin gShl (mC (.int 1)) (mVar 16))))))
  (mSq (mPar 11 12 (mCons (mCall (r 7) (mCons (mVar 1) (mCons (mC (.int 6)) mNil))) (mCons (mCall (r 7) (mCons (mVar 1) (mCons (mC (.int 6)) mNil))) mNil)))
  (mSq (mSet 6 (mBin gIx (mVar 5) (mVar 11)))
  (mSq (mIfS (mNotB (mTru (mCall (r 8) (mCons (mCall (r 1) (mCons (mVar 6) (mCons (mVar 6) mNil))) (mCons (mBin gAdd (mVar 6) (mBin gFdv (mVar 6) (mC (.int 2)))) mNil)))))
  (mRet (mC (.bl false)))
  mNx)
  (mSq (mIfS (mAndB (mB (mBin gNe (mVar 11) (mVar 12))) (mNotB (mTru (mCall (r 8) (mCons (mCall (r 1) (mCons (mVar 6) (mCons (mBin gIx (mVar 5) (mVar 12)) mNil))) (mCons (mBin gMul (mVar 6) (mBin gIx (mVar 5) (mVar 12))) mNil))))))
  (mRet (mC (.bl false)))
  mNx)
  (mSq (mSet 7 (mCall (r 7) (mCons (mVar 1) (mCons (mVar 6) mNil))))
  (mRet (mAnd (mCall (r 8) (mCons (mCall (r 1) (mCons (mVar 6) (mCons (mVar 7) mNil))) (mCons (mBin gMul (mVar 6) (mVar 7)) mNil))) (mAnd (mCall0 (r 10)) (mCall (r 8) (mCons (mTup (mCons (mCall (r 3) (mCons (mC (.int 1)) mNil)) (mCons (mCall (r 3) (mCons (mC (.int 2)) mNil)) (mCons (mCall (r 3) (mCons (mC (.int 3)) mNil)) mNil)))) (mCons (mTup (mCons (mC (.int 1)) (mCons (mC (.int 3)) (mCons (mC (.int 2)) mNil)))) mNil))))))))))))))))
def sem : Nat → Nat → F
  | 0, _ => fun _ _ => .bad
  | k + 1, i => match i with
    | 0 => runF 1 2 (b_0 (sem k))
    | 1 => runF 2 11 (b_1 (sem k))
    | 2 => runF 2 3 (b_2 (sem k))
    | 3 => runF 1 1 (b_3 (sem k))
    | 4 => runF 1 2 (b_4 (sem k))
    | 5 => runF 1 1 (b_5 (sem k))
    | 6 => runF 1 6 (b_6 (sem k))
    | 7 => runF 2 3 (b_7 (sem k))
    | 8 => runF 2 3 (b_8 (sem k))
    | 9 => runF 3 7 (b_9 (sem k))
    | 10 => runF 0 1 (b_10 (sem k))
    | 11 => runF 1 17 (b_11 (sem k))
    | _ => fun _ _ => .bad
theorem run_0 (k : Nat) (x0 : D) (s : S) : sem (k + 1) 0 [x0] s = retK (b_0 (sem k) [some x0, none] s) := rfl
theorem run_1 (k : Nat) (x0 x1 : D) (s : S) : sem (k + 1) 1 [x0, x1] s = retK (b_1 (sem k) [some x0, some x1, none, none, none, none, none, none, none, none, none] s) := rfl
theorem run_2 (k : Nat) (x0 x1 : D) (s : S) : sem (k + 1) 2 [x0, x1] s = retK (b_2 (sem k) [some x0, some x1, none] s) := rfl
theorem run_3 (k : Nat) (x0 : D) (s : S) : sem (k + 1) 3 [x0] s = retK (b_3 (sem k) [some x0] s) := rfl
theorem run_4 (k : Nat) (x0 : D) (s : S) : sem (k + 1) 4 [x0] s = retK (b_4 (sem k) [some x0, none] s) := rfl
theorem run_5 (k : Nat) (x0 : D) (s : S) : sem (k + 1) 5 [x0] s = retK (b_5 (sem k) [some x0] s) := rfl
theorem run_6 (k : Nat) (x0 : D) (s : S) : sem (k + 1) 6 [x0] s = retK (b_6 (sem k) [some x0, none, none, none, none, none] s) := rfl
theorem run_7 (k : Nat) (x0 x1 : D) (s : S) : sem (k + 1) 7 [x0, x1] s = retK (b_7 (sem k) [some x0, some x1, none] s) := rfl
theorem run_8 (k : Nat) (x0 x1 : D) (s : S) : sem (k + 1) 8 [x0, x1] s = retK (b_8 (sem k) [some x0, some x1, none] s) := rfl
theorem run_9 (k : Nat) (x0 x1 x2 : D) (s : S) : sem (k + 1) 9 [x0, x1, x2] s = retK (b_9 (sem k) [some x0, some x1, some x2, none, none, none, none] s) := rfl
theorem run_10 (k : Nat) (s : S) : sem (k + 1) 10 [] s = retK (b_10 (sem k) [none] s) := rfl
theorem run_11 (k : Nat) (x0 : D) (s : S) : sem (k + 1) 11 [x0] s = retK (b_11 (sem k) [some x0, none, none, none, none, none, none, none, none, none, none, none, none, none, none, none, none] s) := rfl
/-- the plain law -/
def Law : Prop := ∀ (a : Addr) (ns : List Int), ns.length ≤ 63 → ∃ s, sem 60 11 [.kl a ns] [] = .ok (.bl true) s
end K61

set_option linter.all false
/-! Nim.lean: the field of the integers below 2^(2^n) with sums and products without carry. Plain Lean, no program. -/
namespace NimF
open Lean.Grind
structure R2 where
  T : Type
  zero : T
  one : T
  add : T → T → T
  mul : T → T → T
  add_zero : ∀ a, add a zero = a
  add_comm : ∀ a b, add a b = add b a
  add_assoc : ∀ a b c, add (add a b) c = add a (add b c)
  add_self : ∀ a, add a a = zero
  mul_comm : ∀ a b, mul a b = mul b a
  mul_assoc : ∀ a b c, mul (mul a b) c = mul a (mul b c)
  mul_one : ∀ a, mul a one = a
  distrib : ∀ a b c, mul a (add b c) = add (mul a b) (mul a c)
  one_ne : one ≠ zero
namespace R2
variable (R : R2)
theorem mul_zero (a : R.T) : R.mul a R.zero = R.zero := by
  have h := R.distrib a R.zero R.zero
  rw [R.add_zero] at h
  rw [R.add_self] at h
  exact h
def nat (n : Nat) : R.T := if n % 2 = 0 then R.zero else R.one
theorem nat_succ (n : Nat) : R.nat (n + 1) = R.add (R.nat n) R.one := by
  unfold nat
  rcases Nat.mod_two_eq_zero_or_one n with h | h
  · rw [if_pos h, if_neg (by omega), R.add_comm, R.add_zero]
  · rw [if_neg (by omega : ¬ n % 2 = 0), if_pos (by omega), R.add_self]
def npow (a : R.T) : Nat → R.T
  | 0 => R.one
  | n + 1 => R.mul (npow a n) a
def int (i : Int) : R.T := R.nat i.natAbs
instance : CommRing R.T where
  add := R.add
  mul := R.mul
  natCast := ⟨R.nat⟩
  ofNat n := ⟨R.nat n⟩
  nsmul := ⟨fun n a => R.mul (R.nat n) a⟩
  npow := ⟨R.npow⟩
  add_zero := R.add_zero
  add_comm := R.add_comm
  add_assoc := R.add_assoc
  mul_assoc := R.mul_assoc
  mul_one := R.mul_one
  one_mul a := (R.mul_comm _ _).trans (R.mul_one a)
  left_distrib := R.distrib
  right_distrib a b c := by
    show R.mul (R.add a b) c = R.add (R.mul a c) (R.mul b c)
    rw [R.mul_comm, R.distrib, R.mul_comm c, R.mul_comm c]
  zero_mul a := (R.mul_comm _ _).trans (R.mul_zero a)
  mul_zero a := R.mul_zero a
  pow_zero _ := rfl
  pow_succ _ _ := rfl
  ofNat_succ n := R.nat_succ n
  ofNat_eq_natCast _ := rfl
  nsmul_eq_natCast_mul _ _ := rfl
  neg a := a
  sub := R.add
  intCast := ⟨R.int⟩
  zsmul := ⟨fun i a => R.mul (R.int i) a⟩
  neg_add_cancel a := R.add_self a
  sub_eq_add_neg _ _ := rfl
  neg_zsmul i a := by
    show R.mul (R.nat (-i).natAbs) a = R.mul (R.nat i.natAbs) a
    rw [Int.natAbs_neg]
  zsmul_natCast_eq_nsmul _ _ := rfl
  intCast_ofNat _ := rfl
  intCast_neg i := by
    show R.nat (-i).natAbs = R.nat i.natAbs
    rw [Int.natAbs_neg]
  mul_comm := R.mul_comm
instance : IsCharP R.T 2 where
  ofNat_ext_iff {x y} := by
    show R.nat x = R.nat y ↔ _
    unfold nat
    rcases Nat.mod_two_eq_zero_or_one x with h | h <;> rcases Nat.mod_two_eq_zero_or_one y with h' | h' <;> simp [h, h', R.one_ne, R.one_ne.symm]
theorem zero_eq : R.zero = (0 : R.T) := rfl
theorem one_eq : R.one = (1 : R.T) := rfl
theorem add_eq (a b : R.T) : R.add a b = a + b := rfl
theorem mul_eq (a b : R.T) : R.mul a b = a * b := rfl

/-- squaring, so many times -/
def frob (x : R.T) : Nat → R.T
  | 0 => x
  | j + 1 => frob x j * frob x j
/-- c + c^2 + c^4 + .. -/
def tr (c : R.T) : Nat → R.T
  | 0 => 0
  | j + 1 => tr c j * tr c j + c
theorem frob_frob (x : R.T) (i j : Nat) : R.frob (R.frob x i) j = R.frob x (i + j) := by
  induction j with
  | zero => rfl
  | succ j ih => show _ * _ = R.frob x (i + j) * R.frob x (i + j); rw [ih]
theorem frob_add (x y : R.T) (j : Nat) : R.frob (x + y) j = R.frob x j + R.frob y j := by
  induction j with
  | zero => rfl
  | succ j ih => show _ * _ = R.frob x j * R.frob x j + R.frob y j * R.frob y j; rw [ih]; grind
theorem frob_mul (x y : R.T) (j : Nat) : R.frob (x * y) j = R.frob x j * R.frob y j := by
  induction j with
  | zero => rfl
  | succ j ih => show _ * _ = (R.frob x j * R.frob x j) * (R.frob y j * R.frob y j); rw [ih]; grind
theorem frob_one (j : Nat) : R.frob 1 j = 1 := by
  induction j with
  | zero => rfl
  | succ j ih => show _ * _ = _; rw [ih]; grind
theorem tr_root (r c : R.T) (h : r * r + r = c) (j : Nat) : R.tr c j = R.frob r j + r := by
  induction j with
  | zero => show 0 = r + r; grind
  | succ j ih => show R.tr c j * R.tr c j + c = R.frob r j * R.frob r j + r; rw [ih]; grind
theorem tr_add (c : R.T) (i j : Nat) : R.tr c (i + j) = R.frob (R.tr c i) j + R.tr c j := by
  induction j with
  | zero => show _ = R.tr c i + 0; grind
  | succ j ih =>
    show R.tr c (i + j) * R.tr c (i + j) + c = R.frob (R.tr c i) j * R.frob (R.tr c i) j + (R.tr c j * R.tr c j + c)
    rw [ih]; grind

/-- a field with 2^k elements, and what the next one is made by -/
structure Good (R : R2) (k : Nat) (c : R.T) : Prop where
  inv : ∀ a : R.T, a ≠ 0 → ∃ b, a * b = 1
  fr : ∀ a : R.T, R.frob a k = a
  tr : R.tr c k = 1
variable {R}
theorem Good.ne {k : Nat} {c : R.T} (g : Good R k c) {a b : R.T} (ha : a ≠ 0) (hb : b ≠ 0) : a * b ≠ 0 := by
  obtain ⟨x, hx⟩ := g.inv a ha
  intro h
  apply hb
  have : (a * x) * b = x * (a * b) := by grind
  rw [hx, h] at this
  grind
theorem Good.noroot {k : Nat} {c : R.T} (g : Good R k c) (r : R.T) : r * r + r ≠ c := by
  intro h
  have e := R.tr_root r c h k
  rw [g.fr, g.tr] at e
  have : (1 : R.T) = 0 := by grind
  exact R.one_ne this

variable (R)
/-- pairs (h, l): h X + l with X X = X + c -/
def ext (c : R.T) : R2 where
  T := R.T × R.T
  zero := (0, 0)
  one := (0, 1)
  add a b := (a.1 + b.1, a.2 + b.2)
  mul a b := (a.1 * b.1 + a.1 * b.2 + a.2 * b.1, a.2 * b.2 + c * (a.1 * b.1))
  add_zero a := by apply Prod.ext <;> show _ + (0 : R.T) = _ <;> grind
  add_comm a b := by apply Prod.ext <;> show (_ + _ : R.T) = _ + _ <;> grind
  add_assoc a b c := by apply Prod.ext <;> show (_ + _ + _ : R.T) = _ + (_ + _) <;> grind
  add_self a := by apply Prod.ext <;> show (_ + _ : R.T) = 0 <;> grind
  mul_comm a b := by
    apply Prod.ext
    · show (a.1 * b.1 + a.1 * b.2 + a.2 * b.1 : R.T) = b.1 * a.1 + b.1 * a.2 + b.2 * a.1
      grind
    · show (a.2 * b.2 + c * (a.1 * b.1) : R.T) = b.2 * a.2 + c * (b.1 * a.1)
      grind
  mul_assoc a b d := by
    obtain ⟨a1, a2⟩ := a; obtain ⟨b1, b2⟩ := b; obtain ⟨d1, d2⟩ := d
    apply Prod.ext
    · show ((a1 * b1 + a1 * b2 + a2 * b1) * d1 + (a1 * b1 + a1 * b2 + a2 * b1) * d2 + (a2 * b2 + c * (a1 * b1)) * d1 : R.T)
        = a1 * (b1 * d1 + b1 * d2 + b2 * d1) + a1 * (b2 * d2 + c * (b1 * d1)) + a2 * (b1 * d1 + b1 * d2 + b2 * d1)
      grind
    · show ((a2 * b2 + c * (a1 * b1)) * d2 + c * ((a1 * b1 + a1 * b2 + a2 * b1) * d1) : R.T)
        = a2 * (b2 * d2 + c * (b1 * d1)) + c * (a1 * (b1 * d1 + b1 * d2 + b2 * d1))
      grind
  mul_one a := by
    apply Prod.ext
    · show (a.1 * 0 + a.1 * 1 + a.2 * 0 : R.T) = a.1; grind
    · show (a.2 * 1 + c * (a.1 * 0) : R.T) = a.2; grind
  distrib a b d := by
    apply Prod.ext
    · show (a.1 * (b.1 + d.1) + a.1 * (b.2 + d.2) + a.2 * (b.1 + d.1) : R.T) = (a.1 * b.1 + a.1 * b.2 + a.2 * b.1) + (a.1 * d.1 + a.1 * d.2 + a.2 * d.1); grind
    · show (a.2 * (b.2 + d.2) + c * (a.1 * (b.1 + d.1)) : R.T) = (a.2 * b.2 + c * (a.1 * b.1)) + (a.2 * d.2 + c * (a.1 * d.1)); grind
  one_ne := by
    intro h
    exact R.one_ne (congrArg Prod.snd h)
def pr (c : R.T) (h l : R.T) : (R.ext c).T := ((h, l) : R.T × R.T)
theorem ext_add (c : R.T) (a b a' b' : R.T) : R.pr c a b + R.pr c a' b' = ((a + a', b + b') : R.T × R.T) := rfl
theorem ext_mul (c : R.T) (a b a' b' : R.T) : R.pr c a b * R.pr c a' b' = ((a * a' + a * b' + b * a', b * b' + c * (a * a')) : R.T × R.T) := rfl
theorem ext_one (c : R.T) : (1 : (R.ext c).T) = ((0, 1) : R.T × R.T) := rfl
theorem ext_zero (c : R.T) : (0 : (R.ext c).T) = ((0, 0) : R.T × R.T) := rfl
theorem ext_frob (c : R.T) (h l : R.T) (j : Nat) : (R.ext c).frob ((h, l) : R.T × R.T) j = ((R.frob h j, R.frob l j + R.frob h j * R.tr c j) : R.T × R.T) := by
  induction j with
  | zero =>
    show ((h, l) : R.T × R.T) = (h, l + h * 0)
    have : l + h * 0 = l := by grind
    rw [this]
  | succ j ih =>
    show ((R.ext c).frob ((h, l) : R.T × R.T) j * (R.ext c).frob ((h, l) : R.T × R.T) j : (R.ext c).T) = _
    rw [ih]
    show R.pr c _ _ * R.pr c _ _ = _
    rw [ext_mul]
    show _ = ((R.frob h j * R.frob h j, R.frob l j * R.frob l j + R.frob h j * R.frob h j * (R.tr c j * R.tr c j + c)) : R.T × R.T)
    apply Prod.ext
    · show (_ : R.T) = _; grind
    · show (_ : R.T) = _; grind
/-- the second half of tr, two levels -/
def tr2 (c : R.T) : Nat → R.T
  | 0 => 0
  | j + 1 => tr2 c j * tr2 c j + c * (R.tr c j * R.tr c j)
theorem ext_tr (c : R.T) (j : Nat) : (R.ext c).tr ((c, 0) : R.T × R.T) j = ((R.tr c j, R.tr2 c j) : R.T × R.T) := by
  induction j with
  | zero => rfl
  | succ j ih =>
    show ((R.ext c).tr ((c, 0) : R.T × R.T) j * (R.ext c).tr ((c, 0) : R.T × R.T) j + R.pr c c 0 : (R.ext c).T) = ((R.tr c j * R.tr c j + c, R.tr2 c j * R.tr2 c j + c * (R.tr c j * R.tr c j)) : R.T × R.T)
    rw [ih]
    show R.pr c _ _ * R.pr c _ _ + R.pr c _ _ = _
    rw [ext_mul]
    show R.pr c _ _ + R.pr c _ _ = _
    rw [ext_add]
    apply Prod.ext
    · show (_ : R.T) = _; grind
    · show (_ : R.T) = _; grind
variable {R}
theorem Good.ext {k : Nat} {c : R.T} (g : Good R k c) : Good (R.ext c) (k + k) ((c, 0) : R.T × R.T) where
  inv := by
    rintro ⟨h, l⟩ hn
    -- the norm
    have hN : l * l + l * h + c * (h * h) ≠ 0 := by
      by_cases hh : h = 0
      · subst hh
        have hl : l ≠ 0 := fun z => hn (by rw [z]; rfl)
        have := g.ne hl hl
        intro z; apply this; grind
      · obtain ⟨i, hi⟩ := g.inv h hh
        intro z
        apply g.noroot (l * i)
        have : (l * i) * (l * i) + l * i + c = (l * l + l * h + c * (h * h)) * (i * i) := by grind
        rw [z] at this
        grind
    obtain ⟨m, hm⟩ := g.inv _ hN
    refine ⟨((h * m, (l + h) * m) : R.T × R.T), ?_⟩
    show R.pr c _ _ * R.pr c _ _ = _
    rw [ext_mul, ext_one]
    apply Prod.ext
    · show (_ : R.T) = 0; grind
    · show (_ : R.T) = 1; grind
  fr := by
    rintro ⟨h, l⟩
    rw [ext_frob]
    have e : R.tr c (k + k) = 0 := by rw [R.tr_add, g.fr, g.tr]; grind
    have f : ∀ x : R.T, R.frob x (k + k) = x := fun x => by rw [← R.frob_frob, g.fr, g.fr]
    rw [e, f, f]
    apply Prod.ext
    · rfl
    · show l + h * 0 = l; grind
  tr := by
    rw [ext_tr, ext_one]
    have e : R.tr c (k + k) = 0 := by rw [R.tr_add, g.fr, g.tr]; grind
    have u : ∀ j, R.tr2 c (k + j) = R.frob (R.tr2 c k) j + R.tr2 c j + R.tr c j := by
      intro j
      induction j with
      | zero => show _ = _ + (0 : R.T) + 0; rw [Nat.add_zero]; show _ = R.tr2 c k + 0 + 0; grind
      | succ j ih =>
        show R.tr2 c (k + j) * R.tr2 c (k + j) + c * (R.tr c (k + j) * R.tr c (k + j)) = R.frob (R.tr2 c k) j * R.frob (R.tr2 c k) j + (R.tr2 c j * R.tr2 c j + c * (R.tr c j * R.tr c j)) + (R.tr c j * R.tr c j + c)
        rw [ih, R.tr_add, g.tr, R.frob_one]; grind
    have e2 : R.tr2 c (k + k) = 1 := by rw [u, g.fr, g.tr]; grind
    rw [e, e2]
end R2

/-- two elements -/
def B2 : R2 where
  T := Bool
  zero := false
  one := true
  add := xor
  mul := and
  add_zero := by decide
  add_comm := by decide
  add_assoc := by decide
  add_self := by decide
  mul_comm := by decide
  mul_assoc := by decide
  mul_one := by decide
  distrib := by decide
  one_ne := by decide
/-- the fields, with what the next one is made by -/
def FF : Nat → (R : R2) × R.T
  | 0 => ⟨B2, true⟩
  | n + 1 => ⟨(FF n).1.ext (FF n).2, (((FF n).2, (0 : (FF n).1.T)) : (FF n).1.T × (FF n).1.T)⟩
abbrev F (n : Nat) : R2 := (FF n).1
def cc (n : Nat) : (F n).T := (FF n).2
theorem F_good : ∀ n, R2.Good (F n) (2 ^ n) (cc n)
  | 0 => {
      inv := fun a h => ⟨true, by cases a with | true => rfl | false => exact absurd rfl h⟩
      fr := fun a => by cases a <;> rfl
      tr := rfl }
  | n + 1 => by
    have e : 2 ^ (n + 1) = 2 ^ n + 2 ^ n := by omega
    rw [e]
    exact (F_good n).ext

/-! ### numbers -/
theorem pp (n : Nat) : 2 ^ 2 ^ (n + 1) = 2 ^ 2 ^ n * 2 ^ 2 ^ n := by
  rw [← Nat.pow_add]; congr 1; omega
def enc : (n : Nat) → (F n).T → Nat
  | 0, b => Bool.toNat b
  | n + 1, p => enc n p.1 * 2 ^ 2 ^ n + enc n p.2
def dec : (n : Nat) → Nat → (F n).T
  | 0, a => (decide (a % 2 = 1) : Bool)
  | n + 1, a => ((dec n (a / 2 ^ 2 ^ n), dec n (a % 2 ^ 2 ^ n)) : (F n).T × (F n).T)
theorem enc_lt : ∀ (n : Nat) (x : (F n).T), enc n x < 2 ^ 2 ^ n
  | 0, b => by cases b <;> decide
  | n + 1, p => by
    have h1 := enc_lt n p.1
    have h2 := enc_lt n p.2
    show enc n p.1 * 2 ^ 2 ^ n + enc n p.2 < _
    rw [pp]
    calc enc n p.1 * 2 ^ 2 ^ n + enc n p.2 < enc n p.1 * 2 ^ 2 ^ n + 2 ^ 2 ^ n := by omega
      _ = (enc n p.1 + 1) * 2 ^ 2 ^ n := by rw [Nat.add_mul, Nat.one_mul]
      _ ≤ 2 ^ 2 ^ n * 2 ^ 2 ^ n := Nat.mul_le_mul_right _ h1
theorem half_div {k h l : Nat} (hl : l < k) : (h * k + l) / k = h := by
  rw [Nat.mul_comm, Nat.mul_add_div (by omega), Nat.div_eq_of_lt hl, Nat.add_zero]
theorem half_mod {k h l : Nat} (hl : l < k) : (h * k + l) % k = l := by
  rw [Nat.mul_comm, Nat.mul_add_mod, Nat.mod_eq_of_lt hl]
theorem dec_enc : ∀ (n : Nat) (x : (F n).T), dec n (enc n x) = x
  | 0, b => by cases b <;> rfl
  | n + 1, p => by
    show ((dec n ((enc n p.1 * 2 ^ 2 ^ n + enc n p.2) / 2 ^ 2 ^ n), dec n ((enc n p.1 * 2 ^ 2 ^ n + enc n p.2) % 2 ^ 2 ^ n)) : (F n).T × (F n).T) = p
    rw [half_div (enc_lt n p.2), half_mod (enc_lt n p.2), dec_enc, dec_enc]
    rfl
theorem enc_dec : ∀ (n : Nat) {a : Nat}, a < 2 ^ 2 ^ n → enc n (dec n a) = a
  | 0, a, h => by
    have : a = 0 ∨ a = 1 := by simp at h; omega
    rcases this with rfl | rfl <;> rfl
  | n + 1, a, h => by
    show enc n (dec n (a / 2 ^ 2 ^ n)) * 2 ^ 2 ^ n + enc n (dec n (a % 2 ^ 2 ^ n)) = a
    have hp : 0 < 2 ^ 2 ^ n := Nat.two_pow_pos _
    rw [pp] at h
    rw [enc_dec n (Nat.div_lt_of_lt_mul h), enc_dec n (Nat.mod_lt _ hp)]
    exact Nat.div_add_mod' a _
theorem enc_zero : ∀ n, enc n 0 = 0
  | 0 => rfl
  | n + 1 => by show enc n 0 * _ + enc n 0 = 0; rw [enc_zero n]; simp
theorem enc_one : ∀ n, enc n 1 = 1
  | 0 => rfl
  | n + 1 => by show enc n 0 * _ + enc n 1 = 1; rw [enc_zero n, enc_one n]; simp
theorem dec_zero (n : Nat) : dec n 0 = 0 := by rw [← enc_zero n, dec_enc]
theorem dec_one (n : Nat) : dec n 1 = 1 := by rw [← enc_one n, dec_enc]
theorem xor_split {k h l h' l' : Nat} (hl : l < 2 ^ k) (hl' : l' < 2 ^ k) : (h * 2 ^ k + l) ^^^ (h' * 2 ^ k + l') = (h ^^^ h') * 2 ^ k + (l ^^^ l') := by
  have e1 : ((h * 2 ^ k + l) ^^^ (h' * 2 ^ k + l')) / 2 ^ k = h ^^^ h' := by
    rw [Nat.xor_div_two_pow, half_div hl, half_div hl']
  have e2 : ((h * 2 ^ k + l) ^^^ (h' * 2 ^ k + l')) % 2 ^ k = l ^^^ l' := by
    rw [Nat.xor_mod_two_pow, half_mod hl, half_mod hl']
  rw [← Nat.div_add_mod' ((h * 2 ^ k + l) ^^^ (h' * 2 ^ k + l')) (2 ^ k), e1, e2]
theorem enc_add : ∀ (n : Nat) (x y : (F n).T), enc n (x + y) = enc n x ^^^ enc n y
  | 0, a, b => by cases a <;> cases b <;> rfl
  | n + 1, a, b => by
    show enc n (a.1 + b.1) * 2 ^ 2 ^ n + enc n (a.2 + b.2) = (enc n a.1 * 2 ^ 2 ^ n + enc n a.2) ^^^ (enc n b.1 * 2 ^ 2 ^ n + enc n b.2)
    rw [xor_split (enc_lt n _) (enc_lt n _), enc_add, enc_add]
theorem enc_cc : ∀ n, enc n (cc n) = 2 ^ (2 ^ n - 1)
  | 0 => rfl
  | n + 1 => by
    show enc n (cc n) * 2 ^ 2 ^ n + enc n 0 = _
    rw [enc_cc n, enc_zero, Nat.add_zero, ← Nat.pow_add]
    congr 1
    have := Nat.two_pow_pos n
    have e : 2 ^ (n + 1) = 2 ^ n + 2 ^ n := by omega
    omega
/-- the product at a level -/
def nimL (n a b : Nat) : Nat := enc n (dec n a * dec n b)
theorem nimL_lt (n a b : Nat) : nimL n a b < 2 ^ 2 ^ n := enc_lt _ _
theorem dec_nimL (n a b : Nat) : dec n (nimL n a b) = dec n a * dec n b := dec_enc _ _
theorem dec_xor {n a b : Nat} (ha : a < 2 ^ 2 ^ n) (hb : b < 2 ^ 2 ^ n) : dec n (a ^^^ b) = dec n a + dec n b := by
  rw [← dec_enc n (dec n a + dec n b), enc_add, enc_dec n ha, enc_dec n hb]
theorem pow_le_pp (n : Nat) : 2 ^ 2 ^ n ≤ 2 ^ 2 ^ (n + 1) := Nat.pow_le_pow_right (by decide) (Nat.pow_le_pow_right (by decide) (by omega))
theorem dec_up {n a : Nat} (ha : a < 2 ^ 2 ^ n) : dec (n + 1) a = ((0, dec n a) : (F n).T × (F n).T) := by
  show ((dec n (a / 2 ^ 2 ^ n), dec n (a % 2 ^ 2 ^ n)) : (F n).T × (F n).T) = _
  rw [Nat.div_eq_of_lt ha, Nat.mod_eq_of_lt ha, dec_zero]
theorem ext_lo (n : Nat) (x y : (F n).T) : @HMul.hMul (F (n + 1)).T (F (n + 1)).T (F (n + 1)).T _ ((0, x) : (F n).T × (F n).T) ((0, y) : (F n).T × (F n).T) = ((0, x * y) : (F n).T × (F n).T) := by
  show ((0 * 0 + 0 * y + x * 0, x * y + (FF n).2 * (0 * 0)) : (F n).T × (F n).T) = _
  apply Prod.ext
  · show (_ : (F n).T) = 0; grind
  · show (_ : (F n).T) = x * y; grind
theorem nimL_up {n a b : Nat} (ha : a < 2 ^ 2 ^ n) (hb : b < 2 ^ 2 ^ n) : nimL (n + 1) a b = nimL n a b := by
  unfold nimL
  rw [dec_up ha, dec_up hb, ext_lo]
  show enc n 0 * 2 ^ 2 ^ n + enc n (dec n a * dec n b) = _
  rw [enc_zero, Nat.zero_mul, Nat.zero_add]
theorem nimL_le {n m a b : Nat} (h : n ≤ m) (ha : a < 2 ^ 2 ^ n) (hb : b < 2 ^ 2 ^ n) : nimL m a b = nimL n a b := by
  have up : ∀ d, a < 2 ^ 2 ^ (n + d) ∧ b < 2 ^ 2 ^ (n + d) ∧ nimL (n + d) a b = nimL n a b := by
    intro d
    induction d with
    | zero => exact ⟨ha, hb, rfl⟩
    | succ d ih =>
      obtain ⟨h1, h2, h3⟩ := ih
      exact ⟨Nat.lt_of_lt_of_le h1 (pow_le_pp _), Nat.lt_of_lt_of_le h2 (pow_le_pp _), (nimL_up h1 h2).trans h3⟩
  obtain ⟨d, rfl⟩ := Nat.le.dest h
  exact (up d).2.2
theorem nimL_comm (n a b : Nat) : nimL n a b = nimL n b a := by
  unfold nimL; congr 1; grind
theorem nimL_assoc (n a b c : Nat) : nimL n (nimL n a b) c = nimL n a (nimL n b c) := by
  unfold nimL; rw [dec_enc, dec_enc]; congr 1; grind
theorem nimL_zero (n a : Nat) : nimL n 0 a = 0 := by
  unfold nimL; rw [dec_zero, (by grind : (0 : (F n).T) * dec n a = 0), enc_zero]
theorem nimL_one {n a : Nat} (ha : a < 2 ^ 2 ^ n) : nimL n 1 a = a := by
  unfold nimL; rw [dec_one, (by grind : (1 : (F n).T) * dec n a = dec n a), enc_dec n ha]
theorem nimL_xor {n a b c : Nat} (hb : b < 2 ^ 2 ^ n) (hc : c < 2 ^ 2 ^ n) : nimL n a (b ^^^ c) = nimL n a b ^^^ nimL n a c := by
  unfold nimL; rw [dec_xor hb hc, (by grind : dec n a * (dec n b + dec n c) = dec n a * dec n b + dec n a * dec n c), enc_add]
/-- the recursion of the program -/
theorem nimL_rec {n a b : Nat} (ha : a < 2 ^ 2 ^ (n + 1)) (hb : b < 2 ^ 2 ^ (n + 1)) :
    nimL (n + 1) a b = ((nimL n (a / 2 ^ 2 ^ n ^^^ a % 2 ^ 2 ^ n) (b / 2 ^ 2 ^ n ^^^ b % 2 ^ 2 ^ n) ^^^ nimL n (a % 2 ^ 2 ^ n) (b % 2 ^ 2 ^ n)) * 2 ^ 2 ^ n ^^^ nimL n (a % 2 ^ 2 ^ n) (b % 2 ^ 2 ^ n))
      ^^^ nimL n (nimL n (a / 2 ^ 2 ^ n) (b / 2 ^ 2 ^ n)) (2 ^ (2 ^ n - 1)) := by
  have hp : 0 < 2 ^ 2 ^ n := Nat.two_pow_pos _
  rw [pp] at ha hb
  have a1 := Nat.div_lt_of_lt_mul ha
  have b1 := Nat.div_lt_of_lt_mul hb
  have a2 := Nat.mod_lt a hp
  have b2 := Nat.mod_lt b hp
  generalize ea1 : a / 2 ^ 2 ^ n = x1 at *
  generalize ea2 : a % 2 ^ 2 ^ n = x2 at *
  generalize eb1 : b / 2 ^ 2 ^ n = y1 at *
  generalize eb2 : b % 2 ^ 2 ^ n = y2 at *
  have hd : ∀ u, dec (n + 1) u = ((dec n (u / 2 ^ 2 ^ n), dec n (u % 2 ^ 2 ^ n)) : (F n).T × (F n).T) := fun _ => rfl
  have L : nimL (n + 1) a b = enc n (dec n x1 * dec n y1 + dec n x1 * dec n y2 + dec n x2 * dec n y1) * 2 ^ 2 ^ n + enc n (dec n x2 * dec n y2 + cc n * (dec n x1 * dec n y1)) := by
    unfold nimL
    rw [hd, hd, ea1, ea2, eb1, eb2]
    rfl
  rw [L]
  have e1 : nimL n (x1 ^^^ x2) (y1 ^^^ y2) ^^^ nimL n x2 y2 = enc n (dec n x1 * dec n y1 + dec n x1 * dec n y2 + dec n x2 * dec n y1) := by
    unfold nimL
    rw [dec_xor a1 a2, dec_xor b1 b2, ← enc_add]
    congr 1
    grind
  have e2 : nimL n x2 y2 ^^^ nimL n (nimL n x1 y1) (2 ^ (2 ^ n - 1)) = enc n (dec n x2 * dec n y2 + cc n * (dec n x1 * dec n y1)) := by
    unfold nimL
    rw [dec_enc, ← enc_cc, dec_enc, ← enc_add]
    congr 1
    grind
  rw [e1, Nat.xor_assoc, e2]
  have := xor_split (k := 2 ^ n) (h := enc n (dec n x1 * dec n y1 + dec n x1 * dec n y2 + dec n x2 * dec n y1)) (l := 0) (h' := 0) (l' := enc n (dec n x2 * dec n y2 + cc n * (dec n x1 * dec n y1))) hp (enc_lt _ _)
  rw [Nat.zero_mul, Nat.zero_add, Nat.add_zero, Nat.xor_zero, Nat.zero_xor] at this
  exact this.symm

/-! ### the product, whatever the level -/
def nim (a b : Nat) : Nat := nimL 6 a b
theorem nimL_eq {n a b : Nat} (h : n ≤ 6) (ha : a < 2 ^ 2 ^ n) (hb : b < 2 ^ 2 ^ n) : nimL n a b = nim a b := (nimL_le h ha hb).symm
theorem nim_lt {n a b : Nat} (h : n ≤ 6) (ha : a < 2 ^ 2 ^ n) (hb : b < 2 ^ 2 ^ n) : nim a b < 2 ^ 2 ^ n := by
  rw [← nimL_eq h ha hb]; exact nimL_lt _ _ _
theorem nim_comm (a b : Nat) : nim a b = nim b a := nimL_comm _ _ _
theorem nim_assoc (a b c : Nat) : nim (nim a b) c = nim a (nim b c) := nimL_assoc _ _ _ _
theorem nim_zero (a : Nat) : nim 0 a = 0 := nimL_zero _ _
theorem nim_one {a : Nat} (h : a < 2 ^ 64) : nim 1 a = a := nimL_one h
theorem nim_xor {a b c : Nat} (hb : b < 2 ^ 64) (hc : c < 2 ^ 64) : nim a (b ^^^ c) = nim a b ^^^ nim a c := nimL_xor hb hc
/-- the program's small case -/
theorem nim_small {a b : Nat} (ha : a < 2 ^ 64) (hb : b < 2 ^ 64) (h : a < 2 ∨ b < 2) : nim a b = a * b := by
  have one : ∀ a b, a < 2 → b < 2 ^ 64 → nim a b = a * b := fun a b h hb => by
    have : a = 0 ∨ a = 1 := by omega
    rcases this with rfl | rfl
    · rw [nim_zero, Nat.zero_mul]
    · rw [nim_one hb, Nat.one_mul]
  rcases h with h | h
  · exact one a b h hb
  · rw [nim_comm, Nat.mul_comm]; exact one b a h ha
theorem nim_rec {n a b : Nat} (h : n < 6) (ha : a < 2 ^ 2 ^ (n + 1)) (hb : b < 2 ^ 2 ^ (n + 1)) :
    nim a b = ((nim (a / 2 ^ 2 ^ n ^^^ a % 2 ^ 2 ^ n) (b / 2 ^ 2 ^ n ^^^ b % 2 ^ 2 ^ n) ^^^ nim (a % 2 ^ 2 ^ n) (b % 2 ^ 2 ^ n)) * 2 ^ 2 ^ n ^^^ nim (a % 2 ^ 2 ^ n) (b % 2 ^ 2 ^ n))
      ^^^ nim (nim (a / 2 ^ 2 ^ n) (b / 2 ^ 2 ^ n)) (2 ^ (2 ^ n - 1)) := by
  have hp : 0 < 2 ^ 2 ^ n := Nat.two_pow_pos _
  have ha' := ha
  have hb' := hb
  rw [pp] at ha' hb'
  have a1 := Nat.div_lt_of_lt_mul ha'
  have b1 := Nat.div_lt_of_lt_mul hb'
  have a2 := Nat.mod_lt a hp
  have b2 := Nat.mod_lt b hp
  have c1 : 2 ^ (2 ^ n - 1) < 2 ^ 2 ^ n := Nat.pow_lt_pow_right (by decide) (by have := Nat.two_pow_pos n; omega)
  have R := nimL_rec ha hb
  have h' : n ≤ 6 := by omega
  rw [nimL_eq (by omega) ha hb, nimL_eq h' a2 b2, nimL_eq h' a1 b1, nimL_eq h' (nim_lt h' a1 b1) c1, nimL_eq h' (Nat.xor_lt_two_pow a1 a2) (Nat.xor_lt_two_pow b1 b2)] at R
  exact R

/-! ### powers, roots, inverses -/
def npow (a : Nat) : Nat → Nat
  | 0 => 1
  | k + 1 => nim (npow a k) a
def nsq (a : Nat) : Nat → Nat
  | 0 => a
  | j + 1 => nim (nsq a j) (nsq a j)
theorem dec_nim {n a b : Nat} (h : n ≤ 6) (ha : a < 2 ^ 2 ^ n) (hb : b < 2 ^ 2 ^ n) : dec n (nim a b) = dec n a * dec n b := by
  rw [← nimL_eq h ha hb, dec_nimL]
theorem nsq_lt {n a : Nat} (h : n ≤ 6) (ha : a < 2 ^ 2 ^ n) : ∀ j, nsq a j < 2 ^ 2 ^ n
  | 0 => ha
  | j + 1 => nim_lt h (nsq_lt h ha j) (nsq_lt h ha j)
theorem dec_nsq {n a : Nat} (h : n ≤ 6) (ha : a < 2 ^ 2 ^ n) : ∀ j, dec n (nsq a j) = (F n).frob (dec n a) j
  | 0 => rfl
  | j + 1 => by
    show dec n (nim (nsq a j) (nsq a j)) = (F n).frob (dec n a) j * (F n).frob (dec n a) j
    rw [dec_nim h (nsq_lt h ha j) (nsq_lt h ha j), dec_nsq h ha j]
theorem dec_inj {n a b : Nat} (ha : a < 2 ^ 2 ^ n) (hb : b < 2 ^ 2 ^ n) (h : dec n a = dec n b) : a = b := by
  rw [← enc_dec n ha, h, enc_dec n hb]
theorem nsq_full {n a : Nat} (h : n ≤ 6) (ha : a < 2 ^ 2 ^ n) : nsq a (2 ^ n) = a := by
  refine dec_inj (nsq_lt h ha _) ha ?_
  rw [dec_nsq h ha, (F_good n).fr]
/-- the root: squared, it is the number -/
theorem root_sq {n a : Nat} (h : n ≤ 6) (ha : a < 2 ^ 2 ^ n) : nim (nsq a (2 ^ n - 1)) (nsq a (2 ^ n - 1)) = a := by
  have e : 2 ^ n = (2 ^ n - 1) + 1 := by have := Nat.two_pow_pos n; omega
  have := nsq_full h ha
  rw [e] at this
  exact this
theorem sq_inj {n a b : Nat} (h : n ≤ 6) (ha : a < 2 ^ 2 ^ n) (hb : b < 2 ^ 2 ^ n) (e : nim a a = nim b b) : a = b := by
  refine dec_inj ha hb ?_
  have e' := congrArg (dec n) e
  rw [dec_nim h ha ha, dec_nim h hb hb] at e'
  have g := F_good n
  by_cases z : dec n a + dec n b = 0
  · grind
  · exact absurd (by grind : (dec n a + dec n b) * (dec n a + dec n b) = 0) (g.ne z z)
theorem npow_lt {n a : Nat} (h : n ≤ 6) (ha : a < 2 ^ 2 ^ n) : ∀ k, npow a k < 2 ^ 2 ^ n
  | 0 => Nat.one_lt_two_pow (by have := Nat.two_pow_pos n; omega)
  | k + 1 => nim_lt h (npow_lt h ha k) ha
theorem npow_add {n a : Nat} (h : n ≤ 6) (ha : a < 2 ^ 2 ^ n) (i : Nat) : ∀ j, npow a (i + j) = nim (npow a i) (npow a j)
  | 0 => by
    show npow a i = nim (npow a i) 1
    rw [nim_comm, nim_one (Nat.lt_of_lt_of_le (npow_lt h ha i) (by have : 2 ^ 2 ^ n ≤ 2 ^ 2 ^ 6 := Nat.pow_le_pow_right (by decide) (Nat.pow_le_pow_right (by decide) h); simpa using this))]
  | j + 1 => by
    show nim (npow a (i + j)) a = nim (npow a i) (nim (npow a j) a)
    rw [npow_add h ha i j, nim_assoc]
theorem lt64 {n a : Nat} (h : n ≤ 6) (ha : a < 2 ^ 2 ^ n) : a < 2 ^ 64 :=
  Nat.lt_of_lt_of_le ha (by have : 2 ^ 2 ^ n ≤ 2 ^ 2 ^ 6 := Nat.pow_le_pow_right (by decide) (Nat.pow_le_pow_right (by decide) h); simpa using this)
/-- a^2, to a power -/
theorem npow_sq {n a : Nat} (h : n ≤ 6) (ha : a < 2 ^ 2 ^ n) : ∀ k, npow (nim a a) k = npow a (2 * k)
  | 0 => rfl
  | k + 1 => by
    show nim (npow (nim a a) k) (nim a a) = nim (nim (npow a (2 * k)) a) a
    rw [npow_sq h ha k, nim_assoc]
theorem nsq_npow {n a : Nat} (h : n ≤ 6) (ha : a < 2 ^ 2 ^ n) : ∀ j, nsq a j = npow a (2 ^ j)
  | 0 => by show a = nim 1 a; rw [nim_one (lt64 h ha)]
  | j + 1 => by
    show nim (nsq a j) (nsq a j) = _
    have e : 2 ^ (j + 1) = 2 ^ j + 2 ^ j := by omega
    rw [nsq_npow h ha j, e, npow_add h ha]
theorem nim_ne {n a b : Nat} (h : n ≤ 6) (ha : a < 2 ^ 2 ^ n) (hb : b < 2 ^ 2 ^ n) (za : a ≠ 0) (zb : b ≠ 0) : nim a b ≠ 0 := by
  intro e
  have e' := congrArg (dec n) e
  rw [dec_nim h ha hb, dec_zero] at e'
  refine (F_good n).ne (fun z => za ?_) (fun z => zb ?_) e'
  · exact dec_inj ha (Nat.two_pow_pos _) (z.trans (dec_zero n).symm)
  · exact dec_inj hb (Nat.two_pow_pos _) (z.trans (dec_zero n).symm)
theorem nim_cancel {n a b c : Nat} (h : n ≤ 6) (ha : a < 2 ^ 2 ^ n) (hb : b < 2 ^ 2 ^ n) (hc : c < 2 ^ 2 ^ n) (za : a ≠ 0) (e : nim a b = nim a c) : b = c := by
  have e' : nim a (b ^^^ c) = 0 := by rw [nim_xor (lt64 h hb) (lt64 h hc), e, Nat.xor_self]
  by_cases z : b ^^^ c = 0
  · have : b ^^^ (b ^^^ c) = b := by rw [z, Nat.xor_zero]
    rw [← Nat.xor_assoc, Nat.xor_self, Nat.zero_xor] at this
    exact this.symm
  · exact absurd e' (nim_ne h ha (Nat.xor_lt_two_pow hb hc) za z)
/-- the inverse -/
theorem inv_mul {n a : Nat} (h : n ≤ 6) (h0 : 0 < n) (ha : a < 2 ^ 2 ^ n) (za : a ≠ 0) : nim a (npow a (2 ^ 2 ^ n - 2)) = 1 := by
  have big : 4 ≤ 2 ^ 2 ^ n := by
    have : 2 ^ 1 ≤ 2 ^ n := Nat.pow_le_pow_right (by decide) h0
    have : 2 ^ 2 ≤ 2 ^ 2 ^ n := Nat.pow_le_pow_right (by decide) (by omega)
    omega
  have one : nim a (npow a (2 ^ 2 ^ n - 2)) = npow a (2 ^ 2 ^ n - 1) := by
    have : 2 ^ 2 ^ n - 1 = (2 ^ 2 ^ n - 2) + 1 := by omega
    rw [this, nim_comm]; rfl
  have full : npow a (2 ^ 2 ^ n) = a := by rw [← nsq_npow h ha, nsq_full h ha]
  have e : nim a (npow a (2 ^ 2 ^ n - 1)) = nim a 1 := by
    have : 2 ^ 2 ^ n = (2 ^ 2 ^ n - 1) + 1 := by omega
    rw [this] at full
    have f : nim (npow a (2 ^ 2 ^ n - 1)) a = a := full
    rw [nim_comm, f, nim_comm, nim_one (lt64 h ha)]
  rw [one]
  exact nim_cancel h ha (npow_lt h ha _) (by omega) za e

/-! ### powers of two -/
theorem dec_x (n : Nat) : dec (n + 1) (2 ^ 2 ^ n) = ((1, 0) : (F n).T × (F n).T) := by
  show ((dec n (2 ^ 2 ^ n / 2 ^ 2 ^ n), dec n (2 ^ 2 ^ n % 2 ^ 2 ^ n)) : (F n).T × (F n).T) = _
  rw [Nat.div_self (Nat.two_pow_pos _), Nat.mod_self, dec_one, dec_zero]
theorem x_lt (n : Nat) : 2 ^ 2 ^ n < 2 ^ 2 ^ (n + 1) := Nat.pow_lt_pow_right (by decide) (Nat.pow_lt_pow_right (by decide) (by omega))
theorem nim_xa {n a : Nat} (h : n < 6) (ha : a < 2 ^ 2 ^ n) : nim (2 ^ 2 ^ n) a = 2 ^ 2 ^ n * a := by
  rw [← nimL_eq (n := n + 1) h (x_lt n) (Nat.lt_of_lt_of_le ha (pow_le_pp n))]
  unfold nimL
  rw [dec_x, dec_up ha]
  show enc n (1 * 0 + 1 * dec n a + 0 * 0) * 2 ^ 2 ^ n + enc n (0 * dec n a + (FF n).2 * (1 * 0)) = _
  rw [(by grind : (1 * 0 + 1 * dec n a + 0 * 0 : (F n).T) = dec n a), (by grind : (0 * dec n a + (FF n).2 * (1 * 0) : (F n).T) = 0), enc_dec n ha, enc_zero, Nat.add_zero, Nat.mul_comm]
theorem nim_xx {n : Nat} (h : n < 6) : nim (2 ^ 2 ^ n) (2 ^ 2 ^ n) = 2 ^ 2 ^ n + 2 ^ 2 ^ n / 2 := by
  rw [← nimL_eq (n := n + 1) h (x_lt n) (x_lt n)]
  unfold nimL
  rw [dec_x]
  show enc n (1 * 1 + 1 * 0 + 0 * 1) * 2 ^ 2 ^ n + enc n (0 * 0 + cc n * (1 * 1)) = _
  rw [(by grind : (1 * 1 + 1 * 0 + 0 * 1 : (F n).T) = 1), (by grind : (0 * 0 + cc n * (1 * 1) : (F n).T) = cc n), enc_one, enc_cc, Nat.one_mul]
  congr 1
  have e : 2 ^ n = (2 ^ n - 1) + 1 := by have := Nat.two_pow_pos n; omega
  have : 2 ^ 2 ^ n = 2 ^ (2 ^ n - 1) * 2 := by
    rw [← Nat.pow_succ]
    exact congrArg (2 ^ ·) e
  rw [this, Nat.mul_div_cancel _ (by decide)]
theorem nim_xy {i j : Nat} (hi : i < 6) (hj : j < 6) (h : i ≠ j) : nim (2 ^ 2 ^ i) (2 ^ 2 ^ j) = 2 ^ 2 ^ i * 2 ^ 2 ^ j := by
  have lt : ∀ {i j : Nat}, i < j → 2 ^ 2 ^ i < 2 ^ 2 ^ j := fun h => Nat.pow_lt_pow_right (by decide) (Nat.pow_lt_pow_right (by decide) h)
  rcases Nat.lt_or_gt_of_ne h with h | h
  · rw [nim_comm, nim_xa hj (lt h), Nat.mul_comm]
  · exact nim_xa hi (lt h)

end NimF

set_option Elab.async false
set_option linter.all false
set_option maxRecDepth 100000
set_option maxHeartbeats 4000000
namespace K61
open PySem L2 Z
/-- the box of draws -/
def Bx (s : S) (n m : Nat) : Prop := n ≠ m ∧ ∃ (cells : List Int) (u v : Int), s[n]? = some (.lst [.ref m, .int u, .int v]) ∧ s[m]? = some (.lst (cells.map D.int)) ∧ cells.length ≤ 63
/-- nothing but n, m is changed -/
def Only2 (n m : Nat) (s s' : S) : Prop := s'.length = s.length ∧ ∀ i, i ≠ n → i ≠ m → s'[i]? = s[i]?
theorem Only2.refl {n m : Nat} {s : S} : Only2 n m s s := ⟨rfl, fun _ _ _ => rfl⟩
theorem Only2.trans {n m : Nat} {s s' s2 : S} (a : Only2 n m s s') (b : Only2 n m s' s2) : Only2 n m s s2 := ⟨b.1.trans a.1, fun i h1 h2 => (b.2 i h1 h2).trans (a.2 i h1 h2)⟩
theorem Only2.setn {n m : Nat} {s : S} (o : O) : Only2 n m s (s.set n o) := ⟨by simp, fun i h1 _ => List.getElem?_set_ne (Ne.symm h1)⟩
theorem Only2.setm {n m : Nat} {s : S} (o : O) : Only2 n m s (s.set m o) := ⟨by simp, fun i _ h2 => List.getElem?_set_ne (Ne.symm h2)⟩
theorem load_run {n m : Nat} {s : S} (k : Nat) (h : Bx s n m) : Ok (sem (k + 1) 6 [.ref n] s) fun d s' => (∃ x, d = .int x) ∧ Bx s' n m ∧ Only2 n m s s' := by
  obtain ⟨hnm, cells, u, v, h1, h2, h3⟩ := h
  have hn : n < s.length := (List.getElem?_eq_some_iff.mp h1).1
  have hm : m < s.length := (List.getElem?_eq_some_iff.mp h2).1
  cases cells with
  | nil =>
    rw [run_6]
    simp [b_6, gIx_r h1, gLen_r h2, atI, ixN, gPut_l h1, CM, gIx_r (List.getElem?_set_self (a := O.lst _) hn)]
    exact ⟨⟨hnm, [], u, _, List.getElem?_set_self hn, by rw [List.getElem?_set_ne hnm]; exact h2, by simp⟩, Only2.setn _⟩
  | cons c cells =>
    have e2 : s[m]? = some (.lst (D.int c :: cells.map D.int)) := h2
    have g1 : (s.set m (.lst (cells.map D.int)))[n]? = some (.lst [.ref m, .int u, .int v]) := by rw [List.getElem?_set_ne (Ne.symm hnm)]; exact h1
    have hn' : n < (s.set m (.lst (cells.map D.int))).length := by simpa using hn
    have b0 : Bx (s.set m (.lst (cells.map D.int))) n m := ⟨hnm, cells, u, v, g1, List.getElem?_set_self hm, by simp at h3; omega⟩
    have bx : ∀ w, Bx ((s.set m (.lst (cells.map D.int))).set n (.lst [.ref m, .int u, .int w])) n m := fun w => ⟨hnm, cells, u, w, List.getElem?_set_self (by simpa using hn), by
      rw [List.getElem?_set_ne hnm, List.getElem?_set_self hm], by simp at h3; omega⟩
    have on : ∀ w, Only2 n m s ((s.set m (.lst (cells.map D.int))).set n (.lst [.ref m, .int u, .int w])) := fun w => (Only2.setm _).trans (Only2.setn _)
    have g3 : ∀ x, gPut (.ref n) (.int 2) x (s.set m (.lst (cells.map D.int))) = some ((s.set m (.lst (cells.map D.int))).set n (.lst [.ref m, .int u, x])) := fun x => by rw [gPut_l g1]; rfl
    have g4 : ∀ w, (((s.set m (.lst (cells.map D.int))).set n (.lst [.ref m, .int u, .int w])))[n]? = some (.lst [.ref m, .int u, .int w]) := fun w => List.getElem?_set_self hn'
    have g5 : ∀ w x, gPut (.ref n) (.int 2) x ((s.set m (.lst (cells.map D.int))).set n (.lst [.ref m, .int u, .int w])) = some (((s.set m (.lst (cells.map D.int))).set n (.lst [.ref m, .int u, .int w])).set n (.lst [.ref m, .int u, x])) := fun w x => by rw [gPut_l (g4 w)]; rfl
    have hn2 : ∀ w, n < ((s.set m (.lst (cells.map D.int))).set n (.lst [.ref m, .int u, .int w])).length := fun w => by simpa using hn
    rw [run_6]
    by_cases hc : 0 ≤ c
    · by_cases hb : 1000000000000000000 ≤ 2 * c
      · simp [b_6, gIx_r h1, gLen_r e2, atI, ixN, CM, tyB_l e2, gPop0_l e2, hc, hb]
        exact ⟨b0, Only2.setm _⟩
      · simp [b_6, gIx_r h1, gLen_r e2, atI, ixN, CM, tyB_l e2, gPop0_l e2, hc, hb, gIx_r g1, g3, gIx_r (g4 _), g5, gIx_r (List.getElem?_set_self (a := O.lst _) (hn2 _))]
        exact ⟨bx _, on _⟩
    · by_cases hb : 1000000000000000000 ≤ -2 * c - 1
      · simp [b_6, gIx_r h1, gLen_r e2, atI, ixN, CM, tyB_l e2, gPop0_l e2, hc, hb]
        exact ⟨b0, Only2.setm _⟩
      · simp [b_6, gIx_r h1, gLen_r e2, atI, ixN, CM, tyB_l e2, gPop0_l e2, hc, hb, gIx_r g1, g3, gIx_r (g4 _), g5, gIx_r (List.getElem?_set_self (a := O.lst _) (hn2 _))]
        exact ⟨bx _, on _⟩
def DrawP (n m : Nat) (many : Int) (s : S) (d : D) (s' : S) : Prop := (∃ x, d = D.int x ∧ 0 ≤ x ∧ x < many) ∧ Bx s' n m ∧ Only2 n m s s'
theorem draw_run {n m : Nat} {s : S} (k : Nat) {many : Int} (hp : 0 < many) (hq : many ≤ 2 ^ 64) (h : Bx s n m) : Ok (sem (k + 2) 7 [.ref n, .int many] s) (DrawP n m many s) := by
  have cdv : ∀ i, CDv i many := fun i => ⟨hp, Nat.lt_of_le_of_lt (by omega : many.natAbs ≤ 2 ^ 64) (Nat.pow_lt_pow_right (a := 2) (m := 64) (n := 8000) (by decide) (by decide))⟩
  have fin : ∀ (s1 : S), Bx s1 n m → Ok (retK (seqK (mSet 2 (mBin gMod (mCall gInt (mCons (mBin gIx (mVar 0) (mC (.int 1))) mNil)) (mVar 1)) [some (.ref n), some (.int many), none] s1)
      (mSq (mAsg (gSb (mVar 0) (mC (.int 1))) (mBin gFdv (mBin gIx (mVar 0) (mC (.int 1))) (mVar 1))) (mRet (mVar 2))))) (DrawP n m many s1) := by
    intro s1 ⟨hnm, cells, u, v, h1, h2, h3⟩
    have hn : n < s1.length := (List.getElem?_eq_some_iff.mp h1).1
    simp [gIx_r h1, atI, ixN, hp, cdv, gPut_l h1, DrawP]
    exact ⟨⟨Int.emod_nonneg _ (by omega), Int.emod_lt_of_pos _ hp⟩, ⟨hnm, cells, _, v, List.getElem?_set_self hn, by rw [List.getElem?_set_ne hnm]; exact h2, h3⟩, Only2.setn _⟩
  obtain ⟨hnm, cells, u, v, h1, h2, h3⟩ := id h
  rw [run_7]
  by_cases hu : u < many
  · obtain ⟨_, s1, e1, ⟨x, rfl⟩, b1, o1⟩ := (load_run k h).ex
    obtain ⟨hnm', cells', u', v', h1', h2', h3'⟩ := id b1
    have hn' : n < s1.length := (List.getElem?_eq_some_iff.mp h1').1
    have b2 : Bx (s1.set n (.lst [.ref m, .int x, .int v'])) n m := ⟨hnm, cells', x, v', List.getElem?_set_self hn', by rw [List.getElem?_set_ne hnm]; exact h2', h3'⟩
    have f := (fin _ b2).mono (Q := DrawP n m many s) fun d s' ⟨q1, q2, q3⟩ => ⟨q1, q2, (o1.trans (Only2.setn _)).trans q3⟩
    simp only [b_7, ap_sq, ap_ifS, ap_B, ap_bin, ap_var, ap_C, R.bind_ok, List.getElem?_cons_zero, List.getElem?_cons_succ, gIx_r h1]
    simp [atI, ixN, hu, e1, gPut_l h1'] at f ⊢
    exact f
  · have f := fin s h
    simp [b_7, gIx_r h1, atI, ixN, hu] at f ⊢
    exact f
theorem cut63 (ns : List Int) (h : ns.length ≤ 63) : cutD (ns.map D.int) none (some 63) = ns.map D.int := by
  unfold cutD
  have e : HT.sIx (ns.map D.int).length (ns.map D.int).length (some 63) - HT.sIx (ns.map D.int).length 0 none = ns.length := by
    simp [HT.sIx]; omega
  rw [e]
  simp only [HT.sIx, List.drop_zero]
  exact List.take_of_length_le (by simp)
/-- the box is made -/
theorem box_run (k : Nat) (a : Addr) (ns : List Int) (hl : ns.length ≤ 63) (s : S) : Ok (sem (k + 1) 5 [.kl a ns] s) fun d s' => d = .ref (s.length + 2) ∧ Bx s' (s.length + 2) (s.length + 1) ∧ s'.length = s.length + 3 := by
  rw [run_5]
  simp [b_5, gSl, seqD, lstAt, O.items, lim, cut63 ns hl]
  refine ⟨by omega, ns, 0, 4711 + ns.length, ?_, ?_, hl⟩
  · simp
  · simp
end K61

set_option Elab.async false
set_option linter.all false
set_option maxRecDepth 100000
set_option maxHeartbeats 4000000
namespace K61
open PySem L2 Z
/-! ints as numbers -/
theorem xor_nat (a b : Nat) : Builtin.bitXor (a : Int) (b : Int) = ((a ^^^ b : Nat) : Int) := by rw [Bits.bitXor_pp (Int.natCast_nonneg _) (Int.natCast_nonneg _)]; simp
theorem and_nat (a b : Nat) : Builtin.bitAnd (a : Int) (b : Int) = ((a &&& b : Nat) : Int) := by rw [PyProof.Rows.bitAnd_pp (Int.natCast_nonneg _) (Int.natCast_nonneg _)]; simp
/-- level_of's loop -/
theorem level_loop (s : S) (a : Nat) (ha : a < 2 ^ 64) : ∀ (r j fuel : Nat), j + r = 6 → r < fuel → (j = 0 ∨ 2 ^ 2 ^ (j - 1) ≤ a) →
    ∃ n, n ≤ 6 ∧ a < 2 ^ 2 ^ n ∧ (n = 0 ∨ 2 ^ 2 ^ (n - 1) ≤ a) ∧ whileF (mTru (mBin gShr (mVar 0) (mVar 1))) (mAug 1 gMul (mC (.int 2))) fuel [some (.int (a : Nat)), some (.int ((2 ^ j : Nat) : Int))] s = some (.nx [some (.int (a : Nat)), some (.int ((2 ^ n : Nat) : Int))], s)
  | r, j, 0, _, h, _ => absurd h (Nat.not_lt_zero _)
  | r, j, fuel + 1, e, hf, hj => by
    have sh : (a : Int) / 2 ^ (((2 ^ j : Nat) : Int).toNat) = ((a / 2 ^ 2 ^ j : Nat) : Int) := by rw [Int.toNat_natCast]; push_cast; rfl
    by_cases c : a < 2 ^ 2 ^ j
    · refine ⟨j, by omega, c, hj, ?_⟩
      have z : a / 2 ^ 2 ^ j = 0 := Nat.div_eq_of_lt c
      rw [whileF_succ]
      have h0 : (0 : Int) ≤ ((2 ^ j : Nat) : Int) := Int.natCast_nonneg _
      simp only [ap_tru, ap_bin, ap_var, List.getElem?_cons_zero, List.getElem?_cons_succ, R.bind_ok, gShr_i, if_pos h0, sh, z]
      rfl
    · have nz : a / 2 ^ 2 ^ j ≠ 0 := by
        have := Nat.two_pow_pos (2 ^ j)
        have : 0 < a / 2 ^ 2 ^ j := Nat.div_pos (by omega) this
        omega
      have hj6 : j < 6 := by
        rcases Nat.lt_or_ge j 6 with h | h
        · exact h
        · have e6 : j = 6 := by omega
          subst e6
          exact absurd ha c
      obtain ⟨n, h1, h2, h3, h4⟩ := level_loop s a ha (r - 1) (j + 1) fuel (by omega) (by omega) (.inr (by simpa using Nat.le_of_not_lt c))
      refine ⟨n, h1, h2, h3, ?_⟩
      rw [whileF_succ, ← h4]
      have h0 : (0 : Int) ≤ ((2 ^ j : Nat) : Int) := Int.natCast_nonneg _
      have tr : (((a / 2 ^ 2 ^ j : Nat) : Int) != 0) = true := by rw [bne_iff_ne]; exact fun z => nz (Int.ofNat.inj z)
      have cm : CM ((2 ^ j : Nat) : Int) 2 := .inr (by decide)
      have e2 : ((2 ^ j : Nat) : Int) * 2 = ((2 ^ (j + 1) : Nat) : Int) := by rw [Nat.pow_succ]; push_cast; rfl
      simp only [ap_tru, ap_bin, ap_var, List.getElem?_cons_zero, List.getElem?_cons_succ, R.bind_ok, gShr_i, if_pos h0, sh, truD_i, tr, of_some, R.st_ok, if_true, ap_aug, ap_C, gMul_i, if_pos cm, e2, stepK_nx, List.set_cons_succ, List.set_cons_zero]
theorem level_run (k : Nat) (a : Nat) (ha : a < 2 ^ 64) (s : S) : ∃ n, n ≤ 6 ∧ a < 2 ^ 2 ^ n ∧ (n = 0 ∨ 2 ^ 2 ^ (n - 1) ≤ a) ∧ sem (k + 1) 0 [.int (a : Nat)] s = .ok (.int ((2 ^ n : Nat) : Int)) s := by
  obtain ⟨n, h1, h2, h3, h4⟩ := level_loop s a ha 6 0 FUEL rfl (by decide) (.inl rfl)
  refine ⟨n, h1, h2, h3, ?_⟩
  rw [run_0]
  have h4 : whileF (mTru (mBin gShr (mVar 0) (mVar 1))) (mAug 1 gMul (mC (.int 2))) FUEL [some (.int (a : Nat)), some (.int 1)] s = some (.nx [some (.int (a : Nat)), some (.int ((2 ^ n : Nat) : Int))], s) := h4
  simp [b_0, h4]
end K61

set_option Elab.async false
set_option linter.all false
set_option maxRecDepth 100000
set_option maxHeartbeats 4000000
namespace K61
open PySem L2 Z
open NimF (nim nim_lt nim_comm nim_assoc nim_zero nim_one nim_xor nim_small nim_rec npow nsq root_sq sq_inj npow_add npow_lt npow_sq nsq_npow inv_mul nim_ne nim_cancel nim_xa nim_xx nim_xy lt64 nsq_lt)
theorem pp64 {n a : Nat} (h : n ≤ 6) (ha : a < 2 ^ 2 ^ n) : a < 2 ^ 64 := lt64 h ha
theorem w_half (m : Nat) : ((2 ^ (m + 1) : Nat) : Int) / 2 = ((2 ^ m : Nat) : Int) := by rw [Nat.pow_succ]; omega
theorem w_pow (e : Nat) : (2 : Int) ^ e = ((2 ^ e : Nat) : Int) := (Int.natCast_pow 2 e).symm
theorem w_mask (e : Nat) : (1 : Int) * 2 ^ ((e : Nat) : Int).toNat - 1 = ((2 ^ e - 1 : Nat) : Int) := by
  have pos := Nat.two_pow_pos e
  rw [Int.toNat_natCast, Int.one_mul, w_pow]
  omega
theorem w_top (e : Nat) (h : 0 < e) : (1 : Int) * 2 ^ (((e : Nat) : Int) - 1).toNat = ((2 ^ (e - 1) : Nat) : Int) := by
  have : (((e : Nat) : Int) - 1).toNat = e - 1 := by omega
  rw [this, Int.one_mul, w_pow]
theorem w_low (e x : Nat) : Builtin.bitAnd (x : Int) ((2 ^ e - 1 : Nat) : Int) = ((x % 2 ^ e : Nat) : Int) := by rw [and_nat, Nat.and_two_pow_sub_one_eq_mod]
theorem w_high (e x : Nat) : (x : Int) / 2 ^ ((e : Nat) : Int).toNat = ((x / 2 ^ e : Nat) : Int) := by rw [Int.toNat_natCast, w_pow]; exact (Int.natCast_ediv _ _).symm
theorem w_up (e x : Nat) : (x : Int) * 2 ^ ((e : Nat) : Int).toNat = ((x * 2 ^ e : Nat) : Int) := by rw [Int.toNat_natCast, w_pow]; exact (Int.natCast_mul _ _).symm
theorem w_two (m : Nat) : 2 ^ 2 ^ (m + 1) = 2 ^ 2 ^ m * 2 ^ 2 ^ m := by rw [← Nat.pow_add, Nat.pow_succ, Nat.mul_two]
theorem w_sh {x e : Nat} (hx : x < 2 ^ 64) (he : e ≤ 1000000) : CSh (x : Int) (e : Int) := ⟨by omega, by simpa using he, by simpa using hx⟩
theorem w_32 {x : Nat} (h : x ≤ 32) : x ≤ 1000000 := by omega
theorem cdv2 {i : Int} : CDv i 2 := ⟨by decide, Nat.lt_of_lt_of_le (show 2 < 2 ^ 2 by decide) (Nat.pow_le_pow_right (by decide) (by decide))⟩
/-- nim_product, one step -/
theorem prod_step {k m a b y1 y2 y3 y4 : Nat} {s : S} (hm : 2 ^ m ≤ 32) (h1 : ¬ (a : Int) < 2) (h2 : ¬ (b : Int) < 2) (lv : sem k 0 [.int ((max a b : Nat) : Int)] s = .ok (.int ((2 ^ (m + 1) : Nat) : Int)) s)
    (r1 : sem k 1 [.int ((a % 2 ^ 2 ^ m : Nat) : Int), .int ((b % 2 ^ 2 ^ m : Nat) : Int)] s = .ok (.int (y1 : Nat)) s) (r2 : sem k 1 [.int ((a / 2 ^ 2 ^ m : Nat) : Int), .int ((b / 2 ^ 2 ^ m : Nat) : Int)] s = .ok (.int (y2 : Nat)) s)
    (r3 : sem k 1 [.int ((a / 2 ^ 2 ^ m ^^^ a % 2 ^ 2 ^ m : Nat) : Int), .int ((b / 2 ^ 2 ^ m ^^^ b % 2 ^ 2 ^ m : Nat) : Int)] s = .ok (.int (y3 : Nat)) s) (r4 : sem k 1 [.int (y2 : Nat), .int ((2 ^ (2 ^ m - 1) : Nat) : Int)] s = .ok (.int (y4 : Nat)) s)
    (hy : y3 ^^^ y1 < 2 ^ 64) : sem (k + 1) 1 [.int (a : Nat), .int (b : Nat)] s = .ok (.int (((y3 ^^^ y1) * 2 ^ 2 ^ m ^^^ y1) ^^^ y4 : Nat)) s := by
  have mx : (if (b : Int) > (a : Int) then (b : Int) else (a : Int)) = ((max a b : Nat) : Int) := by
    split <;> omega
  have half := w_half m
  have mask := w_mask (2 ^ m)
  have low := w_low (2 ^ m)
  have high := w_high (2 ^ m)
  have top := w_top (2 ^ m) (Nat.two_pow_pos m)
  have up := w_up (2 ^ m)
  have cdv : CDv ((2 ^ (m + 1) : Nat) : Int) 2 := cdv2
  have pos' := Nat.two_pow_pos m
  generalize 2 ^ m = e at *
  have sh1 : CSh 1 ((e : Nat) : Int) := ⟨by omega, by omega, by decide⟩
  have sh2 : CSh 1 (((e : Nat) : Int) - 1) := ⟨by omega, by omega, by decide⟩
  have sh3 : CSh ((y3 ^^^ y1 : Nat) : Int) ((e : Nat) : Int) := w_sh hy (w_32 hm)
  have h0 : (0 : Int) ≤ ((e : Nat) : Int) := Int.natCast_nonneg _
  rw [run_1]
  simp only [b_1, ap_sq, ap_ifS, ap_orB, ap_B, ap_bin, ap_var, ap_C, R.bind_ok, List.getElem?_cons_zero, List.getElem?_cons_succ, gCmp_i, ap_blD, R.st_ok, decide_eq_true_eq, if_neg h1, if_neg h2, decide_eq_false h1, decide_eq_false h2, Bool.false_eq_true, if_false, ap_nx, seqK_nx, ap_set, ap_call, ap_cons, ap_nil,
    gMax2_i, mx, lv, gFdv_i, if_pos cdv, half, List.set_cons_succ, List.set_cons_zero, gShl_i, if_pos sh1, gSub_i, mask, ap_par, gShr_i, if_pos h0, high, gAnd_i, low, r1, r2, r3, xor_nat, gXor_i, r4, if_pos sh2, top, if_pos sh3, up, ap_ret, retK_rt]
/-- nim_product -/
theorem prod_run : ∀ (n : Nat), n ≤ 6 → ∀ (k a b : Nat) (s : S), n + 2 ≤ k → a < 2 ^ 2 ^ n → b < 2 ^ 2 ^ n → sem k 1 [.int (a : Nat), .int (b : Nat)] s = .ok (.int (nim a b : Nat)) s := by
  intro n
  induction n using Nat.strongRecOn with
  | ind n ih =>
    intro hn k a b s hk ha hb
    obtain ⟨k, rfl⟩ : ∃ j, k = j + 1 := ⟨k - 1, by omega⟩
    have ha64 := pp64 hn ha
    have hb64 := pp64 hn hb
    by_cases small : a < 2 ∨ b < 2
    · have cm : CM (a : Int) (b : Int) := .inl (by simpa using ha64)
      have e : (a : Int) * (b : Int) = ((nim a b : Nat) : Int) := by rw [nim_small ha64 hb64 small]; push_cast; rfl
      by_cases h1 : a < 2
      · have h1' : (a : Int) < 2 := by omega
        rw [run_1]; simp [b_1, h1', cm, e]
      · have h1' : ¬ (a : Int) < 2 := by omega
        have h2' : (b : Int) < 2 := by omega
        rw [run_1]; simp [b_1, h1', h2', cm, e]
    · have h1' : ¬ (a : Int) < 2 := by omega
      have h2' : ¬ (b : Int) < 2 := by omega
      have hm : max a b < 2 ^ 2 ^ n := by omega
      obtain ⟨j, rfl⟩ : ∃ j, k = j + 1 := ⟨k - 1, by omega⟩
      obtain ⟨m', q1, q2, q3, q4⟩ := level_run j (max a b) (pp64 hn hm) s
      have m0 : m' ≠ 0 := fun z => by
        subst z
        have : max a b < 2 ^ 2 ^ 0 := q2
        simp at this
        omega
      obtain ⟨m, rfl⟩ : ∃ m, m' = m + 1 := ⟨m' - 1, by omega⟩
      have q3 : 2 ^ 2 ^ m ≤ max a b := q3.resolve_left m0
      have mn : m < n := by
        rcases Nat.lt_or_ge m n with h | h
        · exact h
        · have : 2 ^ 2 ^ n ≤ 2 ^ 2 ^ m := Nat.pow_le_pow_right (by decide) (Nat.pow_le_pow_right (by decide) h)
          omega
      have pos := Nat.two_pow_pos (2 ^ m)
      have m6 : m ≤ 6 := by omega
      have m6' : m < 6 := by omega
      have pos' := Nat.two_pow_pos m
      have m5 : m ≤ 5 := by omega
      have le32 : 2 ^ m ≤ 32 := (Nat.pow_le_pow_right (by decide) m5 : 2 ^ m ≤ 2 ^ 5)
      have e2 := w_two m
      have hi : ∀ x, x < 2 ^ 2 ^ (m + 1) → x / 2 ^ 2 ^ m < 2 ^ 2 ^ m := fun x h => Nat.div_lt_of_lt_mul (by rw [← e2]; exact h)
      have lo : ∀ x, x % 2 ^ 2 ^ m < 2 ^ 2 ^ m := fun x => Nat.mod_lt _ pos
      have ax : a < 2 ^ 2 ^ (m + 1) := by omega
      have bx : b < 2 ^ 2 ^ (m + 1) := by omega
      have tl : 2 ^ (2 ^ m - 1) < 2 ^ 2 ^ m := Nat.pow_lt_pow_right (by decide) (by omega)
      have r1 := ih m mn (by omega) (j + 1) (a % 2 ^ 2 ^ m) (b % 2 ^ 2 ^ m) s (by omega) (lo _) (lo _)
      have r2 := ih m mn (by omega) (j + 1) (a / 2 ^ 2 ^ m) (b / 2 ^ 2 ^ m) s (by omega) (hi _ ax) (hi _ bx)
      have r3 := ih m mn (by omega) (j + 1) (a / 2 ^ 2 ^ m ^^^ a % 2 ^ 2 ^ m) (b / 2 ^ 2 ^ m ^^^ b % 2 ^ 2 ^ m) s (by omega) (Nat.xor_lt_two_pow (hi _ ax) (lo _)) (Nat.xor_lt_two_pow (hi _ bx) (lo _))
      have r4 := ih m mn (by omega) (j + 1) (nim (a / 2 ^ 2 ^ m) (b / 2 ^ 2 ^ m)) (2 ^ (2 ^ m - 1)) s (by omega) (nim_lt m6 (hi _ ax) (hi _ bx)) tl
      have mixlt : (nim (a / 2 ^ 2 ^ m ^^^ a % 2 ^ 2 ^ m) (b / 2 ^ 2 ^ m ^^^ b % 2 ^ 2 ^ m) ^^^ nim (a % 2 ^ 2 ^ m) (b % 2 ^ 2 ^ m)) < 2 ^ 64 :=
        pp64 (n := m) m6 (Nat.xor_lt_two_pow (nim_lt m6 (Nat.xor_lt_two_pow (hi _ ax) (lo _)) (Nat.xor_lt_two_pow (hi _ bx) (lo _))) (nim_lt m6 (lo _) (lo _)))
      rw [nim_rec (n := m) m6' ax bx]
      exact prod_step le32 h1' h2' q4 r1 r2 r3 r4 mixlt
end K61

set_option Elab.async false
set_option linter.all false
set_option maxRecDepth 100000
set_option maxHeartbeats 4000000
namespace K61
open PySem L2 Z
open NimF (nim nim_lt nim_comm nim_assoc nim_zero nim_one nim_xor nim_small nim_rec npow nsq root_sq sq_inj npow_add npow_lt npow_sq nsq_npow inv_mul nim_ne nim_cancel nim_xa nim_xx nim_xy lt64 nsq_lt)
theorem w_sh1 {e : Nat} (he : e ≤ 1000000) : CSh 1 (e : Int) := ⟨by omega, by omega, by decide⟩
/-- a product, wherever it is asked for -/
theorem prod64 {k : Nat} (hk : 8 ≤ k) {a b : Nat} (ha : a < 2 ^ 64) (hb : b < 2 ^ 64) (s : S) : sem k 1 [.int (a : Nat), .int (b : Nat)] s = .ok (.int (nim a b : Nat)) s := prod_run 6 (by decide) k a b s hk ha hb
def powBody (r : Nat → F) : MS := mSq (mIfS (mTru (mBin gMod (mVar 1) (mC (.int 2)))) (mSet 2 (mCall (r 1) (mCons (mVar 2) (mCons (mVar 0) mNil)))) mNx) (mSq (mSet 0 (mCall (r 1) (mCons (mVar 0) (mCons (mVar 0) mNil)))) (mAug 1 gFdv (mC (.int 2))))
/-- one turn of nim_power -/
theorem pow_turn {k a p f q y : Nat} {s : S} (rq : sem k 1 [.int (a : Nat), .int (a : Nat)] s = .ok (.int (q : Nat)) s) (ry : sem k 1 [.int (f : Nat), .int (a : Nat)] s = .ok (.int (y : Nat)) s) :
    powBody (sem k) [some (.int (a : Nat)), some (.int (p : Nat)), some (.int (f : Nat))] s = some (.nx [some (.int (q : Nat)), some (.int ((p / 2 : Nat) : Int)), some (.int ((if p % 2 = 1 then y else f : Nat) : Int))], s) := by
  have cdv : CDv ((p : Nat) : Int) 2 := cdv2
  have h2 : (0 : Int) < 2 := by decide
  have half : ((p : Nat) : Int) / 2 = ((p / 2 : Nat) : Int) := by omega
  by_cases hp : p % 2 = 1
  · have hm : ((p : Nat) : Int) % 2 = 1 := by omega
    rw [if_pos hp]
    have t1 : ((1 : Int) != 0) = true := by decide
    simp only [powBody, ap_sq, ap_ifS, ap_orB, ap_andB, ap_notB, ap_B, ap_tru, ap_bin, ap_var, ap_C, R.bind_ok, List.getElem?_cons_zero, List.getElem?_cons_succ, gCmp_i, ap_blD, R.st_ok, ap_nx, seqK_nx, ap_set, ap_call, ap_cons, ap_nil, List.set_cons_succ, List.set_cons_zero, ap_ret, retK_rt, Bool.false_eq_true, if_false, if_true, truD_i, of_some, ap_aug, gMod_i, gFdv_i, if_pos h2, hm, t1, ry, rq, if_pos cdv, half]
  · have hm : ((p : Nat) : Int) % 2 = 0 := by omega
    rw [if_neg hp]
    have t1 : ((0 : Int) != 0) = false := by decide
    simp only [powBody, ap_sq, ap_ifS, ap_orB, ap_andB, ap_notB, ap_B, ap_tru, ap_bin, ap_var, ap_C, R.bind_ok, List.getElem?_cons_zero, List.getElem?_cons_succ, gCmp_i, ap_blD, R.st_ok, ap_nx, seqK_nx, ap_set, ap_call, ap_cons, ap_nil, List.set_cons_succ, List.set_cons_zero, ap_ret, retK_rt, Bool.false_eq_true, if_false, if_true, truD_i, of_some, ap_aug, gMod_i, gFdv_i, if_pos h2, hm, t1, rq, if_pos cdv, half]
theorem pow_loop {k : Nat} (hk : 8 ≤ k) (s : S) : ∀ (t p a f fuel : Nat), p < 2 ^ t → t < fuel → a < 2 ^ 64 → f < 2 ^ 64 →
    ∃ a', whileF (mTru (mVar 1)) (powBody (sem k)) fuel [some (.int (a : Nat)), some (.int (p : Nat)), some (.int (f : Nat))] s = some (.nx [some (.int (a' : Nat)), some (.int 0), some (.int (nim f (npow a p) : Nat))], s)
  | t, p, a, f, 0, _, h, _, _ => absurd h (Nat.not_lt_zero _)
  | t, 0, a, f, fuel + 1, _, _, ha, hf => by
    refine ⟨a, ?_⟩
    have e : nim f (npow a 0) = f := by
      show nim f 1 = f
      rw [nim_comm, nim_one hf]
    rw [e, whileF_succ]
    rfl
  | 0, p + 1, a, f, fuel + 1, h, _, _, _ => by omega
  | t + 1, p + 1, a, f, fuel + 1, h, hf, ha, hff => by
    have a64 : a < 2 ^ 2 ^ 6 := ha
    have f64 : f < 2 ^ 2 ^ 6 := hff
    have qlt : nim a a < 2 ^ 64 := nim_lt (n := 6) (by decide) a64 a64
    have ylt : nim f a < 2 ^ 64 := nim_lt (n := 6) (by decide) f64 a64
    have hp : (p + 1) / 2 < 2 ^ t := by rw [Nat.pow_succ] at h; omega
    have e : nim f (npow a (p + 1)) = nim (if (p + 1) % 2 = 1 then nim f a else f) (npow (nim a a) ((p + 1) / 2)) := by
      rw [npow_sq (n := 6) (by decide) a64]
      by_cases c : (p + 1) % 2 = 1
      · rw [if_pos c]
        have e1 : p + 1 = 1 + 2 * ((p + 1) / 2) := by omega
        conv => lhs; rw [e1, npow_add (n := 6) (by decide) a64]
        have e2 : npow a 1 = a := by
          show nim 1 a = a
          exact nim_one ha
        rw [e2, nim_assoc]
      · rw [if_neg c]
        have e1 : p + 1 = 2 * ((p + 1) / 2) := by omega
        conv => lhs; rw [e1]
    have nlt : (if (p + 1) % 2 = 1 then nim f a else f) < 2 ^ 64 := by split <;> assumption
    have rq := prod64 hk ha ha s
    have ry := prod64 hk hff ha s
    rw [e]
    generalize nim a a = q at *
    generalize nim f a = y at *
    obtain ⟨a', h1⟩ := pow_loop hk s t ((p + 1) / 2) q (if (p + 1) % 2 = 1 then y else f) fuel hp (by omega) qlt nlt
    refine ⟨a', ?_⟩
    have tr : (((p + 1 : Nat) : Int) != 0) = true := by rw [bne_iff_ne]; omega
    rw [whileF_succ, ← h1]
    simp only [ap_tru, ap_var, List.getElem?_cons_zero, List.getElem?_cons_succ, R.bind_ok, truD_i, tr, of_some, R.st_ok, if_true, pow_turn rq ry, stepK_nx]
theorem power_run {k : Nat} (hk : 8 ≤ k) {a p : Nat} (ha : a < 2 ^ 64) (hp : p < 2 ^ 1000) (s : S) : sem (k + 1) 2 [.int (a : Nat), .int (p : Nat)] s = .ok (.int (npow a p : Nat)) s := by
  obtain ⟨a', h⟩ := pow_loop hk s 1000 p a 1 FUEL hp (by decide) ha (by decide)
  have e : nim 1 (npow a p) = npow a p := nim_one (npow_lt (n := 6) (by decide) ha p)
  rw [e] at h
  generalize npow a p = y at *
  rw [run_2]
  have h : whileF (mTru (mVar 1)) (mSq (mIfS (mTru (mBin gMod (mVar 1) (mC (.int 2)))) (mSet 2 (mCall (sem k 1) (mCons (mVar 2) (mCons (mVar 0) mNil)))) mNx) (mSq (mSet 0 (mCall (sem k 1) (mCons (mVar 0) (mCons (mVar 0) mNil)))) (mAug 1 gFdv (mC (.int 2))))) FUEL [some (.int (a : Nat)), some (.int (p : Nat)), some (.int 1)] s = some (.nx [some (.int (a' : Nat)), some (.int 0), some (.int (y : Nat))], s) := h
  simp [b_2, h]
/-- nim_inverse -/
theorem inv_run {k : Nat} (hk : 9 ≤ k) {a : Nat} (ha : a < 2 ^ 64) (s : S) :
    (a = 0 → sem (k + 1) 3 [.int (a : Nat)] s = .exc "NoAnswer" s) ∧ (a = 1 → sem (k + 1) 3 [.int (a : Nat)] s = .ok (.int 1) s) ∧
    (1 < a → ∃ n, n ≤ 6 ∧ 0 < n ∧ a < 2 ^ 2 ^ n ∧ 2 ^ 2 ^ (n - 1) ≤ a ∧ sem (k + 1) 3 [.int (a : Nat)] s = .ok (.int (npow a (2 ^ 2 ^ n - 2) : Nat)) s) := by
  refine ⟨fun h => ?_, fun h => ?_, fun h => ?_⟩
  · subst h
    rw [run_3]
    simp [b_3]
  · subst h
    rw [run_3]
    simp [b_3]
  · obtain ⟨j, rfl⟩ : ∃ j, k = j + 1 := ⟨k - 1, by omega⟩
    obtain ⟨n, h1, h2, h3, h4⟩ := level_run j a ha s
    have n0 : n ≠ 0 := fun z => by
      subst z
      have : a < 2 ^ 2 ^ 0 := h2
      simp at this
      omega
    refine ⟨n, h1, by omega, h2, h3.resolve_left n0, ?_⟩
    have big : 4 ≤ 2 ^ 2 ^ n := by
      have h : 2 ^ 1 ≤ 2 ^ n := Nat.pow_le_pow_right (by decide) (by omega)
      have h' : 2 ^ 2 ≤ 2 ^ 2 ^ n := Nat.pow_le_pow_right (by decide) (by omega)
      omega
    have lt : 2 ^ 2 ^ n - 2 < 2 ^ 1000 := by
      have h : 2 ^ n ≤ 64 := (Nat.pow_le_pow_right (by decide) h1 : 2 ^ n ≤ 2 ^ 6)
      have h' : 2 ^ 2 ^ n < 2 ^ 1000 := Nat.pow_lt_pow_right (by decide) (Nat.lt_of_le_of_lt h (by decide))
      exact Nat.lt_of_le_of_lt (Nat.sub_le _ _) h'
    have pr := power_run (k := j) (by omega) ha lt s
    have le64 : 2 ^ n ≤ 64 := (Nat.pow_le_pow_right (by decide) h1 : 2 ^ n ≤ 2 ^ 6)
    have sh : CSh 1 ((2 ^ n : Nat) : Int) := w_sh1 (Nat.le_trans le64 (by decide))
    have ex : (1 : Int) * 2 ^ (((2 ^ n : Nat) : Int)).toNat - 2 = ((2 ^ 2 ^ n - 2 : Nat) : Int) := by
      rw [Int.toNat_natCast, Int.one_mul, w_pow]
      generalize 2 ^ 2 ^ n = e at *
      omega
    have c0 : ¬ ((a : Nat) : Int) = 0 := by omega
    have c1 : (1 : Int) < ((a : Nat) : Int) := by omega
    clear lt big h3 h2
    generalize 2 ^ 2 ^ n - 2 = e at *
    generalize npow a e = y at *
    rw [run_3]
    simp only [b_3, ap_sq, ap_ifS, ap_B, ap_bin, ap_var, ap_C, R.bind_ok, List.getElem?_cons_zero, List.getElem?_cons_succ, gEq_int, decide_eq_false c0, ap_blD, R.st_ok, Bool.false_eq_true, if_false, ap_nx, seqK_nx, ap_ret, ap_if, gCmp_i, decide_eq_true c1, if_true, ap_call, ap_cons, ap_nil, h4, gShl_i, if_pos sh, gSub_i, ex, pr, retK_rt]
/-- nim_root -/
theorem root_loop {k : Nat} (hk : 8 ≤ k) (s : S) : ∀ (xs : List D) (a : Nat) (o : Option D), a < 2 ^ 64 → ∃ o', forF (Src.fix xs).ok (gP (pNm 1)) (mSet 0 (mCall (sem k 1) (mCons (mVar 0) (mCons (mVar 0) mNil)))) xs [some (.int (a : Nat)), o] s = some (.nx [some (.int (nsq a xs.length : Nat)), o'], s)
  | [], a, o, _ => ⟨o, rfl⟩
  | x :: xs, a, o, ha => by
    have rq := prod64 hk ha ha s
    have qlt : nim a a < 2 ^ 64 := nim_lt (n := 6) (by decide) ha ha
    have e : nsq a (x :: xs).length = nsq (nim a a) xs.length := by
      show nsq a (xs.length + 1) = _
      have go : ∀ j, nsq a (j + 1) = nsq (nim a a) j := by
        intro j
        induction j with
        | zero => rfl
        | succ j ih =>
          show nim (nsq a (j + 1)) (nsq a (j + 1)) = nim (nsq (nim a a) j) (nsq (nim a a) j)
          rw [ih]
      exact go _
    rw [e]
    generalize nim a a = q at *
    obtain ⟨o', h⟩ := root_loop hk s xs q (some x) qlt
    refine ⟨o', ?_⟩
    rw [← h, forF_cons rfl]
    simp only [ap_gP, ap_pNm, of_some, R.st_ok, List.set_cons_succ, List.set_cons_zero, ap_set, ap_call, ap_cons, ap_nil, ap_var, List.getElem?_cons_zero, R.bind_ok, rq, stepK_nx]
    rfl
theorem root_run {k : Nat} (hk : 9 ≤ k) {a : Nat} (ha : a < 2 ^ 64) (s : S) : ∃ n, n ≤ 6 ∧ a < 2 ^ 2 ^ n ∧ (n = 0 ∨ 2 ^ 2 ^ (n - 1) ≤ a) ∧ sem (k + 1) 4 [.int (a : Nat)] s = .ok (.int (nsq a (2 ^ n - 1) : Nat)) s := by
  obtain ⟨j, rfl⟩ : ∃ j, k = j + 1 := ⟨k - 1, by omega⟩
  obtain ⟨n, h1, h2, h3, h4⟩ := level_run j a ha s
  refine ⟨n, h1, h2, h3, ?_⟩
  have le64 : 2 ^ n ≤ 64 := (Nat.pow_le_pow_right (by decide) h1 : 2 ^ n ≤ 2 ^ 6)
  have pos := Nat.two_pow_pos n
  have hl : (rangeD 0 (((2 ^ n : Nat) : Int) - 1).toNat).length = 2 ^ n - 1 := by
    unfold rangeD
    rw [List.length_map, List.length_range]
    generalize 2 ^ n = e at *
    omega
  obtain ⟨o', h⟩ := root_loop (k := j + 1) (by omega) s (rangeD 0 (((2 ^ n : Nat) : Int) - 1).toNat) a none ha
  rw [hl] at h
  have hr : rg (((2 ^ n : Nat) : Int) - 1) = true := by
    generalize 2 ^ n = e at *
    exact decide_eq_true (by omega)
  clear hl
  generalize nsq a (2 ^ n - 1) = y at *
  rw [run_4]
  simp only [b_4, ap_sq, ap_for, ap_range1, ap_bin, ap_call, ap_cons, ap_nil, ap_var, ap_C, List.getElem?_cons_zero, R.bind_ok, h4, gSub_i, if_pos hr, R.st_ok, items_fix, h, seqK_nx, ap_ret, retK_rt]
end K61

set_option Elab.async false
set_option linter.all false
set_option maxRecDepth 100000
set_option maxHeartbeats 4000000
namespace K61
open PySem L2 Z
/-- _law_same of ints -/
theorem same_int (k : Nat) (i j : Int) (s : S) : sem (k + 1) 8 [.int i, .int j] s = .ok (.bl (decide (i = j))) s := by
  rw [run_8]
  simp [b_8, isaB]
/-- .. of tuples of ints that are alike -/
theorem same_loop (k : Nat) (s : S) (ns : List Int) (hl : ns.length < lim) : ∀ (r i : Nat), i + r = ns.length → ∀ acc : List D, acc.length = i → (∀ d ∈ acc, d = .bl true) →
    ∃ out, lcF (Src.fix (rangeD 0 ns.length)).ok (pNm 2) mYes (mCall (sem (k + 1) 8) (mCons (mBin gIx (mVar 0) (mVar 2)) (mCons (mBin gIx (mVar 1) (mVar 2)) mNil))) [some (.tup (ns.map D.int)), some (.tup (ns.map D.int)), none] ((rangeD 0 ns.length).drop i) acc s = .ok out s ∧ ∀ d ∈ out, d = .bl true
  | 0, i, h, acc, ha, hd => by
    have : (rangeD 0 ns.length).drop i = [] := List.drop_eq_nil_of_le (by simp [rangeD]; omega)
    rw [this]
    exact ⟨acc, lcF_nil rfl, hd⟩
  | r + 1, i, h, acc, ha, hd => by
    have hi : i < ns.length := by omega
    have e : (rangeD 0 ns.length).drop i = D.int (i : Nat) :: (rangeD 0 ns.length).drop (i + 1) := by
      rw [List.drop_eq_getElem_cons (by simp [rangeD]; exact hi)]
      simp [rangeD]
    have ix : atI (ns.map D.int) ((i : Nat) : Int) = some (.int ns[i]) := atI_nat (by simp [hi])
    obtain ⟨out, h1, h2⟩ := same_loop k s ns hl r (i + 1) (by omega) (acc ++ [.bl true]) (by simp [ha]) (fun d hm => by
      rcases List.mem_append.mp hm with hm | hm
      · exact hd d hm
      · exact List.mem_singleton.mp hm)
    refine ⟨out, ?_, h2⟩
    rw [e, lcF_cons rfl, ← h1]
    have hal : acc.length < lim := by omega
    simp [ix, same_int, hal]
theorem same_tup (k : Nat) (ns : List Int) (hl : ns.length < lim) (s : S) : sem (k + 2) 8 [.tup (ns.map D.int), .tup (ns.map D.int)] s = .ok (.bl true) s := by
  obtain ⟨out, h1, h2⟩ := same_loop k s ns hl ns.length 0 (by omega) [] rfl (fun d h => by cases h)
  have hb : allB out = some (out.map fun _ => true) := by
    clear h1
    induction out with
    | nil => rfl
    | cons d out ih =>
      have e := h2 d (by simp)
      subst e
      unfold allB at ih ⊢
      rw [List.mapM_cons, ih (fun d h => h2 d (by simp [h]))]
      rfl
  have hr : rg (ns.length : Int) = true := by
    unfold lim at *
    exact decide_eq_true (by omega)
  have g1 : gAll out s = .ok (.bl true) s := by
    unfold gAll
    rw [hb]
    simp
  rw [run_8]
  rw [List.drop_zero] at h1
  generalize sem (k + 1) = r at *
  have i1 : (["tuple"].any fun c => isaB "tuple" c) = true := rfl
  have e1 : ((ns.map D.int).length : Int) = (ns.length : Int) := by rw [List.length_map]
  have e2 : ((ns.length : Int)).toNat = ns.length := Int.toNat_natCast _
  have e3 : wipeD [some (D.tup (ns.map D.int)), some (D.tup (ns.map D.int)), none] [2] = [some (D.tup (ns.map D.int)), some (D.tup (ns.map D.int)), none] := rfl
  have e4 : ∀ i : Int, gEq (.int i) (.int i) s = .ok (.bl true) s := fun i => by rw [gEq_int, decide_eq_true rfl]
  unfold b_8
  generalize gEq = ge at *
  simp only [ap_sq, ap_ifS, ap_orB, ap_andB, ap_tru, ap_isi, ap_var, List.getElem?_cons_zero, List.getElem?_cons_succ, R.bind_ok, ty_t, Option.map_some, of_some, i1, truD_b, if_true, R.st_ok, ap_ret, ap_and, ap_bin, ap_call, ap_cons, ap_nil, gLen_t, e1, e4, ap_lc, ap_range1, if_pos hr, e2, items_fix, e3, h1, g1, seqK_rt, retK_rt]
/-- _law_refused -/
theorem refused_run {k : Nat} (hk : 9 ≤ k) (s : S) : sem (k + 2) 10 [] s = .ok (.bl true) s := by
  have h := (inv_run (k := k) hk (a := 0) (by decide) s).1 rfl
  have h : sem (k + 1) 3 [.int 0] s = .exc "NoAnswer" s := h
  rw [run_10]
  generalize sem (k + 1) = r at *
  simp [b_10, mTryAs, h, suFin]
end K61

set_option Elab.async false
set_option linter.all false
set_option maxRecDepth 100000
set_option maxHeartbeats 4000000
namespace K61
open PySem L2 Z
open NimF (nim nim_lt nim_comm nim_assoc nim_zero nim_one nim_xor nim_small nim_rec npow nsq)
/-! the least missing number, below 16 -/
def tab : List (List Nat) := [[0, 0, 0, 0, 0, 0, 0, 0, 0, 0, 0, 0, 0, 0, 0, 0], [0, 1, 2, 3, 4, 5, 6, 7, 8, 9, 10, 11, 12, 13, 14, 15], [0, 2, 3, 1, 8, 10, 11, 9, 12, 14, 15, 13, 4, 6, 7, 5], [0, 3, 1, 2, 12, 15, 13, 14, 4, 7, 5, 6, 8, 11, 9, 10], [0, 4, 8, 12, 6, 2, 14, 10, 11, 15, 3, 7, 13, 9, 5, 1], [0, 5, 10, 15, 2, 7, 8, 13, 3, 6, 9, 12, 1, 4, 11, 14], [0, 6, 11, 13, 14, 8, 5, 3, 7, 1, 12, 10, 9, 15, 2, 4], [0, 7, 9, 14, 10, 13, 3, 4, 15, 8, 6, 1, 5, 2, 12, 11], [0, 8, 12, 4, 11, 3, 7, 15, 13, 5, 1, 9, 6, 14, 10, 2], [0, 9, 14, 7, 15, 6, 1, 8, 5, 12, 11, 2, 10, 3, 4, 13], [0, 10, 15, 5, 3, 9, 12, 6, 1, 11, 14, 4, 2, 8, 13, 7], [0, 11, 13, 6, 7, 12, 10, 1, 9, 2, 4, 15, 14, 5, 3, 8], [0, 12, 4, 8, 13, 1, 9, 5, 6, 10, 2, 14, 11, 7, 15, 3], [0, 13, 6, 11, 9, 4, 15, 2, 14, 3, 8, 5, 7, 10, 1, 12], [0, 14, 7, 9, 5, 11, 2, 12, 10, 4, 13, 3, 15, 1, 8, 6], [0, 15, 5, 10, 1, 14, 4, 11, 2, 13, 7, 8, 3, 12, 6, 9]]
def tb (a b : Nat) : Nat := (tab.getD a []).getD b 0
def nimR : Nat → Nat → Nat → Nat
  | 0, a, b => a * b
  | n + 1, a, b => ((nimR n (a / 2 ^ 2 ^ n ^^^ a % 2 ^ 2 ^ n) (b / 2 ^ 2 ^ n ^^^ b % 2 ^ 2 ^ n) ^^^ nimR n (a % 2 ^ 2 ^ n) (b % 2 ^ 2 ^ n)) * 2 ^ 2 ^ n ^^^ nimR n (a % 2 ^ 2 ^ n) (b % 2 ^ 2 ^ n))
      ^^^ nimR n (nimR n (a / 2 ^ 2 ^ n) (b / 2 ^ 2 ^ n)) (2 ^ (2 ^ n - 1))
theorem nimR_eq : ∀ (n a b : Nat), n ≤ 6 → a < 2 ^ 2 ^ n → b < 2 ^ 2 ^ n → nim a b = nimR n a b
  | 0, a, b, _, ha, hb => nim_small (by omega) (by omega) (.inl (by simpa using ha))
  | n + 1, a, b, h, ha, hb => by
    have pos := Nat.two_pow_pos (2 ^ n)
    have hi : ∀ x, x < 2 ^ 2 ^ (n + 1) → x / 2 ^ 2 ^ n < 2 ^ 2 ^ n := fun x h => Nat.div_lt_of_lt_mul (by rw [← w_two]; exact h)
    have lo : ∀ x, x % 2 ^ 2 ^ n < 2 ^ 2 ^ n := fun x => Nat.mod_lt _ pos
    have tl : 2 ^ (2 ^ n - 1) < 2 ^ 2 ^ n := Nat.pow_lt_pow_right (by decide) (by have := Nat.two_pow_pos n; omega)
    have n6 : n ≤ 6 := by omega
    rw [nim_rec (n := n) (by omega) ha hb, nimR_eq n _ _ n6 (Nat.xor_lt_two_pow (hi _ ha) (lo _)) (Nat.xor_lt_two_pow (hi _ hb) (lo _)), nimR_eq n (a % 2 ^ 2 ^ n) _ n6 (lo _) (lo _),
      nimR_eq n (nim (a / 2 ^ 2 ^ n) (b / 2 ^ 2 ^ n)) _ n6 (nim_lt n6 (hi _ ha) (hi _ hb)) tl, nimR_eq n (a / 2 ^ 2 ^ n) _ n6 (hi _ ha) (hi _ hb)]
    rfl
theorem tab_R : ∀ a, a < 16 → ∀ b, b < 16 → nimR 2 a b = tb a b := by decide +kernel
theorem tab_nim (a : Nat) (ha : a < 16) (b : Nat) (hb : b < 16) : nim a b = tb a b := (nimR_eq 2 a b (by decide) ha hb).trans (tab_R a ha b hb)
/-- what an excluded value is -/
def exTab (a b : Nat) : List Nat := (List.range a).flatMap fun x => (List.range b).map fun y => tb x b ^^^ tb a y ^^^ tb x y
theorem mex_tab : ∀ a, a < 16 → ∀ b, b < 16 → ((exTab a b).contains (tb a b) = false ∧ (List.range (tb a b)).all (fun v => (exTab a b).contains v) = true) := by decide +kernel
theorem mex_not {a b x y : Nat} (ha : a < 16) (hb : b < 16) (hx : x < a) (hy : y < b) : nim x b ^^^ nim a y ^^^ nim x y ≠ nim a b := by
  intro e
  have h := (mex_tab a ha b hb).1
  rw [tab_nim a ha b hb, tab_nim x (by omega) b hb, tab_nim a ha y (by omega), tab_nim x (by omega) y (by omega)] at e
  have : (exTab a b).contains (tb a b) = true := by
    rw [List.contains_iff_mem]
    unfold exTab
    rw [List.mem_flatMap]
    exact ⟨x, List.mem_range.mpr hx, List.mem_map.mpr ⟨y, List.mem_range.mpr hy, e⟩⟩
  rw [h] at this
  cases this
theorem mex_all {a b v : Nat} (ha : a < 16) (hb : b < 16) (hv : v < nim a b) : ∃ x y, x < a ∧ y < b ∧ nim x b ^^^ nim a y ^^^ nim x y = v := by
  have h := List.all_eq_true.mp (mex_tab a ha b hb).2 v (List.mem_range.mpr (by rw [← tab_nim a ha b hb]; exact hv))
  rw [List.contains_iff_mem] at h
  unfold exTab at h
  rw [List.mem_flatMap] at h
  obtain ⟨x, hx, h⟩ := h
  obtain ⟨y, hy, e⟩ := List.mem_map.mp h
  have hx := List.mem_range.mp hx
  have hy := List.mem_range.mp hy
  refine ⟨x, y, hx, hy, ?_⟩
  rw [tab_nim x (by omega) b hb, tab_nim a ha y (by omega), tab_nim x (by omega) y (by omega)]
  exact e
end K61

set_option Elab.async false
set_option linter.all false
set_option maxRecDepth 100000
set_option maxHeartbeats 4000000
namespace K61
open PySem L2 Z
open NimF (nim nim_lt nim_comm nim_assoc nim_zero nim_one nim_xor nim_small nim_rec npow nsq)
/-! tables -/
theorem kget_kput (kvs : List (D × D)) (k v j : D) : (kget (kput kvs k v) j).isSome = (decide (j = k) || (kget kvs j).isSome) := by
  have any_is : ∀ (l : List (D × D)) (x : D), (kget l x).isSome = l.any fun p => decide (p.1 = x) := by
    intro l x
    induction l with
    | nil => rfl
    | cons p l ih =>
      unfold kget at ih ⊢
      rw [List.find?_cons, List.any_cons]
      by_cases h : p.1 = x
      · rw [decide_eq_true h]; rfl
      · rw [decide_eq_false h]; simpa using ih
  rw [any_is, any_is]
  unfold kput
  split
  · rename_i h
    have e : (kvs.map fun p => if p.1 = k then (p.1, v) else p).any (fun p => decide (p.1 = j)) = kvs.any fun p => decide (p.1 = j) := by
      rw [List.any_map]
      congr 1
      funext p
      show decide ((if p.1 = k then (p.1, v) else p).1 = j) = decide (p.1 = j)
      split <;> rfl
    rw [e]
    by_cases hj : j = k
    · subst hj; rw [h]; simp
    · simp [hj]
  · rw [List.any_append]
    simp [Bool.or_comm, eq_comm]
theorem len_sub {α : Type} [DecidableEq α] : ∀ (l m : List α), l.Nodup → (∀ x ∈ l, x ∈ m) → l.length ≤ m.length
  | [], m, _, _ => Nat.zero_le _
  | a :: l, m, hn, hs => by
    rw [List.nodup_cons] at hn
    have hm : a ∈ m := hs a (by simp)
    have := len_sub l (m.erase a) hn.2 (fun x hx => (List.mem_erase_of_ne (fun e => hn.1 (by rw [← e]; exact hx))).mpr (hs x (by simp [hx])))
    rw [List.length_erase_of_mem hm] at this
    have pos := List.length_pos_of_mem hm
    simp
    omega
def key (x y : Nat) : D := .tup [.int (x : Nat), .int (y : Nat)]
theorem key_ok (x y : Nat) : keyOk true (key x y) = true := by
  simp [key, keyOk, D.nk, D.nks, NestedKey.depth, NestedKey.depthAll]
def GoodM (kvs : List (D × D)) : Prop := (kvs.map (·.1)).Nodup ∧ ∀ p ∈ kvs, ∃ x y : Nat, x < 16 ∧ y < 16 ∧ p = (key x y, .int (nim x y : Nat))
def Met (s : S) (m : Nat) : Prop := ∃ kvs, s[m]? = some (.dct true false kvs) ∧ GoodM kvs
/-- nothing old but m is changed -/
def Keep (n m : Nat) (s s' : S) : Prop := n ≤ s'.length ∧ ∀ i, i < n → i ≠ m → s'[i]? = s[i]?
theorem key_inj {x y x' y' : Nat} (h : key x y = key x' y') : x = x' ∧ y = y' := by
  unfold key at h
  simp at h
  exact ⟨Int.ofNat.inj h.1, Int.ofNat.inj h.2⟩
theorem goodM_len {kvs : List (D × D)} (h : GoodM kvs) : kvs.length < lim := by
  have := len_sub (kvs.map (·.1)) ((List.range 16).flatMap fun x => (List.range 16).map fun y => key x y) h.1 (fun d hd => by
    obtain ⟨p, hp, rfl⟩ := List.mem_map.mp hd
    obtain ⟨x, y, hx, hy, rfl⟩ := h.2 p hp
    exact List.mem_flatMap.mpr ⟨x, List.mem_range.mpr hx, List.mem_map.mpr ⟨y, List.mem_range.mpr hy, rfl⟩⟩)
  rw [List.length_map] at this
  have e : ((List.range 16).flatMap fun x => (List.range 16).map fun y => key x y).length = 256 := by
    simp [List.length_flatMap]
    rfl
  unfold lim
  omega
theorem goodM_get {kvs : List (D × D)} (h : GoodM kvs) {a b : Nat} {d : D} (e : kget kvs (key a b) = some d) : d = .int (nim a b : Nat) := by
  unfold kget at e
  obtain ⟨p, hp, rfl⟩ := Option.map_eq_some_iff.mp e
  have h1 := List.find?_some hp
  obtain ⟨x, y, hx, hy, rfl⟩ := h.2 p (List.mem_of_find?_eq_some hp)
  have h1 : key x y = key a b := of_decide_eq_true h1
  obtain ⟨rfl, rfl⟩ := key_inj h1
  rfl
theorem goodM_put {kvs : List (D × D)} (h : GoodM kvs) {a b : Nat} (ha : a < 16) (hb : b < 16) : GoodM (kput kvs (key a b) (.int (nim a b : Nat))) := by
  unfold kput
  split
  · refine ⟨by rw [repl_keys]; exact h.1, fun p hp => ?_⟩
    obtain ⟨q, hq, rfl⟩ := List.mem_map.mp hp
    split
    · rename_i e
      exact ⟨a, b, ha, hb, by rw [e]⟩
    · exact h.2 q hq
  · rename_i hn
    refine ⟨?_, fun p hp => ?_⟩
    · rw [List.map_append, List.nodup_append]
      refine ⟨h.1, by simp, fun x hx y hy e => ?_⟩
      obtain ⟨q, hq, rfl⟩ := List.mem_map.mp hx
      simp at hy
      subst hy
      exact hn (List.any_eq_true.mpr ⟨q, hq, decide_eq_true e⟩)
    · rcases List.mem_append.mp hp with hp | hp
      · exact h.2 p hp
      · rw [List.mem_singleton.mp hp]; exact ⟨a, b, ha, hb, rfl⟩
theorem kget_self {kvs : List (D × D)} {k v : D} : ∃ d, kget (kput kvs k v) k = some d := by
  have := kget_kput kvs k v k
  rw [decide_eq_true rfl] at this
  exact Option.isSome_iff_exists.mp (by simpa using this)
end K61

set_option Elab.async false
set_option linter.all false
set_option maxRecDepth 100000
set_option maxHeartbeats 4000000
namespace K61
open PySem L2 Z
open NimF (nim nim_lt nim_comm nim_assoc nim_zero nim_one nim_xor nim_small nim_rec npow nsq)
/-- what the program's own product promises: sums below t -/
def ProdP (r : Nat → F) (t : Nat) : Prop := ∀ (a b : Nat) (s : S) (m : Nat), a < 16 → b < 16 → a + b < t → Met s m → m < s.length →
  Ok (r 9 [.int (a : Nat), .int (b : Nat), .ref m] s) fun d s' => d = .int (nim a b : Nat) ∧ Met s' m ∧ Keep s.length m s s'
/-- the table of excluded values at w -/
def Wt (s : S) (w : Nat) (vs : List Nat) : Prop := ∃ ws, s[w]? = some (.dct false false ws) ∧ ws.length ≤ vs.length ∧ ∀ v : Nat, (kget ws (.int (v : Nat))).isSome = decide (v ∈ vs)
def fxy (a b x y : Nat) : Nat := nim x b ^^^ nim a y ^^^ nim x y
def cellBody (r : Nat → F) : MS := mAsg (gSb (mVar 3) (mBin gXor (mBin gXor (mCall (r 9) (mCons (mVar 4) (mCons (mVar 1) (mCons (mVar 2) mNil)))) (mCall (r 9) (mCons (mVar 0) (mCons (mVar 6) (mCons (mVar 2) mNil))))) (mCall (r 9) (mCons (mVar 4) (mCons (mVar 6) (mCons (mVar 2) mNil)))))) (mC (.bl true))
theorem Wt.keep {s s' : S} {w m n : Nat} {vs : List Nat} (h : Wt s w vs) (k : Keep n m s s') (hw : w < n) (hm : w ≠ m) : Wt s' w vs := by
  obtain ⟨ws, h1, h2⟩ := h
  exact ⟨ws, by rw [k.2 w hw hm]; exact h1, h2⟩
theorem Keep.trans {n m : Nat} {s s' s2 : S} (a : Keep n m s s') (b : Keep n m s' s2) : Keep n m s s2 := ⟨b.1, fun i h1 h2 => (b.2 i h1 h2).trans (a.2 i h1 h2)⟩
theorem Keep.le {n n' m : Nat} {s s' : S} (a : Keep n m s s') (h : n' ≤ n) : Keep n' m s s' := ⟨Nat.le_trans h a.1, fun i h1 h2 => a.2 i (Nat.lt_of_lt_of_le h1 h) h2⟩
/-- one pair -/
theorem cell_run {r : Nat → F} {t a b x y m w : Nat} {s : S} {vs : List Nat} {o5 : Option D} (P : ProdP r t) (hab : a + b ≤ t) (ha : a < 16) (hb : b < 16) (hx : x < a) (hy : y < b) (hm : Met s m) (hml : m < s.length) (hw : Wt s w vs) (hwl : w < s.length) (hwm : w ≠ m) (hv : vs.length < 1000) :
    ∃ s', cellBody r [some (.int (a : Nat)), some (.int (b : Nat)), some (.ref m), some (.ref w), some (.int (x : Nat)), o5, some (.int (y : Nat))] s = some (.nx [some (.int (a : Nat)), some (.int (b : Nat)), some (.ref m), some (.ref w), some (.int (x : Nat)), o5, some (.int (y : Nat))], s') ∧
      Met s' m ∧ s.length ≤ s'.length ∧ Wt s' w (fxy a b x y :: vs) ∧ Keep w m s s' := by
  obtain ⟨_, s1, e1, rfl, m1, k1⟩ := (P x b s m (by omega) hb (by omega) hm hml).ex
  obtain ⟨_, s2, e2, rfl, m2, k2⟩ := (P a y s1 m ha (by omega) (by omega) m1 (Nat.lt_of_lt_of_le hml k1.1)).ex
  obtain ⟨_, s3, e3, rfl, m3, k3⟩ := (P x y s2 m (by omega) (by omega) (by omega) m2 (Nat.lt_of_lt_of_le (Nat.lt_of_lt_of_le hml k1.1) k2.1)).ex
  have kk : Keep s.length m s s3 := (k1.trans (k2.le k1.1)).trans (k3.le (Nat.le_trans k1.1 k2.1))
  obtain ⟨ws, w1, w2, w3⟩ := hw.keep kk hwl hwm
  have hl3 : w < s3.length := (List.getElem?_eq_some_iff.mp w1).1
  have ex : Builtin.bitXor (Builtin.bitXor ((nim x b : Nat) : Int) ((nim a y : Nat) : Int)) ((nim x y : Nat) : Int) = ((fxy a b x y : Nat) : Int) := by rw [xor_nat, xor_nat]; rfl
  have pt : gPut (.ref w) (.int ((fxy a b x y : Nat) : Int)) (.bl true) s3 = some (s3.set w (.dct false false (kput ws (.int ((fxy a b x y : Nat) : Int)) (.bl true)))) := gPut_d w1 rfl (by unfold lim; omega)
  generalize fxy a b x y = v at *
  generalize nim x b = n1 at *
  generalize nim a y = n2 at *
  generalize nim x y = n3 at *
  refine ⟨s3.set w (.dct false false (kput ws (.int ((v : Nat) : Int)) (.bl true))), by
    simp only [cellBody, ap_asg, ap_C, R.st_ok, ap_gSb, ap_var, List.getElem?_cons_zero, List.getElem?_cons_succ, R.bind_ok, ap_bin, ap_call, ap_cons, ap_nil, e1, e2, e3, gXor_i, ex, pt], ?_, ?_, ?_, ?_⟩
  · obtain ⟨kvs, q1, q2⟩ := m3
    exact ⟨kvs, by rw [List.getElem?_set_ne hwm]; exact q1, q2⟩
  · rw [List.length_set]; exact kk.1
  · refine ⟨_, List.getElem?_set_self hl3, ?_, fun j => ?_⟩
    · have := kput_len ws (.int ((v : Nat) : Int)) (.bl true)
      simp
      omega
    · rw [kget_kput, w3]
      simp
      by_cases hj : j = v
      · subst hj; simp
      · have : ¬ ((j : Nat) : Int) = ((v : Nat) : Int) := fun z => hj (Int.ofNat.inj z)
        simp [hj]
        exact fun h => absurd h this
  · refine ⟨by rw [List.length_set]; exact Nat.le_trans (Nat.le_of_lt hwl) kk.1, fun i h1 h2 => ?_⟩
    rw [List.getElem?_set_ne (Nat.ne_of_gt h1)]
    exact kk.2 i (Nat.lt_trans h1 hwl) h2
def dN' (n : Nat) : List D := (List.range n).map fun i => D.int ((i : Nat) : Int)
theorem range_dN (n : Nat) : rangeD 0 ((n : Nat) : Int).toNat = dN' n := by
  unfold rangeD dN'
  rw [Int.toNat_natCast]
  refine List.map_congr_left fun i _ => ?_
  rw [Int.zero_add]
/-- the inner loop -/
theorem inner_run {r : Nat → F} {t a b x m w : Nat} {o5 : Option D} (P : ProdP r t) (hab : a + b ≤ t) (ha : a < 16) (hb : b < 16) (hx : x < a) (hwm : w ≠ m) : ∀ (ys : List Nat) (s : S) (vs : List Nat) (o6 : Option D), (∀ y ∈ ys, y < b) → Met s m → m < s.length → Wt s w vs → w < s.length → vs.length + ys.length < 1000 →
    ∃ s' o6', forF (fun _ => true) (gP (pNm 6)) (cellBody r) (ys.map fun y => D.int ((y : Nat) : Int)) [some (.int (a : Nat)), some (.int (b : Nat)), some (.ref m), some (.ref w), some (.int (x : Nat)), o5, o6] s = some (.nx [some (.int (a : Nat)), some (.int (b : Nat)), some (.ref m), some (.ref w), some (.int (x : Nat)), o5, o6'], s') ∧
      Met s' m ∧ s.length ≤ s'.length ∧ (∃ vs', Wt s' w vs' ∧ vs'.length = vs.length + ys.length ∧ ∀ v, v ∈ vs' ↔ v ∈ vs ∨ ∃ y ∈ ys, fxy a b x y = v) ∧ Keep w m s s'
  | [], s, vs, o6, _, hm, hml, hw, hwl, _ => ⟨s, o6, rfl, hm, Nat.le_refl _, ⟨vs, hw, rfl, by simp⟩, Nat.le_of_lt hwl, fun _ _ _ => rfl⟩
  | y :: ys, s, vs, o6, hys, hm, hml, hw, hwl, hl => by
    simp at hl
    obtain ⟨s1, e1, m1, l1, w1, k1⟩ := cell_run (o5 := o5) P hab ha hb hx (hys y (by simp)) hm hml hw hwl hwm (by omega)
    obtain ⟨s2, o6', e2, m2, l2, ⟨vs', w2, c2, q2⟩, k2⟩ := inner_run (o5 := o5) P hab ha hb hx hwm ys s1 (fxy a b x y :: vs) (some (.int (y : Nat))) (fun z hz => hys z (by simp [hz])) m1 (by omega) w1 (by omega) (by simp; omega)
    refine ⟨s2, o6', ?_, m2, by omega, ⟨vs', w2, by simp at c2 ⊢; omega, fun v => ?_⟩, k1.trans k2⟩
    · rw [List.map_cons, forF_cons rfl, ← e2]
      simp only [ap_gP, ap_pNm, of_some, R.st_ok, List.set_cons_succ, List.set_cons_zero, e1, stepK_nx]
    · rw [q2]
      simp
      constructor
      · rintro ((rfl | h) | ⟨z, hz, rfl⟩)
        · exact .inr (.inl rfl)
        · exact .inl h
        · exact .inr (.inr ⟨z, hz, rfl⟩)
      · rintro (h | rfl | ⟨z, hz, rfl⟩)
        · exact .inl (.inr h)
        · exact .inl (.inl rfl)
        · exact .inr ⟨z, hz, rfl⟩
/-- the outer loop -/
theorem outer_run {r : Nat → F} {t a b m w : Nat} {o5 : Option D} (P : ProdP r t) (hab : a + b ≤ t) (ha : a < 16) (hb : b < 16) (hwm : w ≠ m) : ∀ (xs : List Nat) (s : S) (vs : List Nat) (o4 o6 : Option D), (∀ x ∈ xs, x < a) → Met s m → m < s.length → Wt s w vs → w < s.length → vs.length + xs.length * b < 1000 →
    ∃ s' o4' o6', forF (fun _ => true) (gP (pNm 4)) (mFor (mRange1 (mVar 1)) (gP (pNm 6)) (cellBody r)) (xs.map fun x => D.int ((x : Nat) : Int)) [some (.int (a : Nat)), some (.int (b : Nat)), some (.ref m), some (.ref w), o4, o5, o6] s = some (.nx [some (.int (a : Nat)), some (.int (b : Nat)), some (.ref m), some (.ref w), o4', o5, o6'], s') ∧
      Met s' m ∧ s.length ≤ s'.length ∧ (∃ vs', Wt s' w vs' ∧ ∀ v, v ∈ vs' ↔ v ∈ vs ∨ ∃ x ∈ xs, ∃ y, y < b ∧ fxy a b x y = v) ∧ Keep w m s s'
  | [], s, vs, o4, o6, _, hm, hml, hw, hwl, _ => ⟨s, o4, o6, rfl, hm, Nat.le_refl _, ⟨vs, hw, by simp⟩, Nat.le_of_lt hwl, fun _ _ _ => rfl⟩
  | x :: xs, s, vs, o4, o6, hxs, hm, hml, hw, hwl, hl => by
    simp [Nat.succ_mul] at hl
    have hr : rg ((b : Nat) : Int) = true := decide_eq_true (by omega)
    obtain ⟨s1, o6', e1, m1, l1, ⟨vs1, w1, c1, q1⟩, k1⟩ := inner_run (o5 := o5) P hab ha hb (hxs x (by simp)) hwm (List.range b) s vs o6 (fun y hy => List.mem_range.mp hy) hm hml hw hwl (by simp; omega)
    simp at c1
    obtain ⟨s2, o4', o6'', e2, m2, l2, ⟨vs2, w2, q2⟩, k2⟩ := outer_run (o5 := o5) P hab ha hb hwm xs s1 vs1 (some (.int (x : Nat))) o6' (fun z hz => hxs z (by simp [hz])) m1 (by omega) w1 (by omega) (by omega)
    refine ⟨s2, o4', o6'', ?_, m2, by omega, ⟨vs2, w2, fun v => ?_⟩, k1.trans k2⟩
    · have e1 : forF (Src.fix (dN' b)).ok (gP (pNm 6)) (cellBody r) (dN' b) [some (.int (a : Nat)), some (.int (b : Nat)), some (.ref m), some (.ref w), some (.int (x : Nat)), o5, o6] s = _ := e1
      rw [List.map_cons, forF_cons rfl, ← e2]
      simp only [ap_gP, ap_pNm, of_some, R.st_ok, List.set_cons_succ, List.set_cons_zero, ap_for, ap_range1, ap_var, List.getElem?_cons_zero, List.getElem?_cons_succ, R.bind_ok, if_pos hr, range_dN, items_fix, e1, stepK_nx]
    · rw [q2, q1]
      simp
      constructor
      · rintro ((h | ⟨y, hy, e⟩) | h)
        · exact .inl h
        · exact .inr (.inl ⟨y, hy, e⟩)
        · exact .inr (.inr h)
      · rintro (h | ⟨y, hy, e⟩ | h)
        · exact .inl (.inl h)
        · exact .inl (.inr ⟨y, hy, e⟩)
        · exact .inr h
/-- the least missing number -/
theorem least_run {m w : Nat} {s : S} {vs : List Nat} {a b : Nat} {o4 o6 : Option D} (hw : Wt s w vs) (z : Nat) (h1 : ∀ v, v < z → v ∈ vs) (h2 : z ∉ vs) : ∀ (q f fuel : Nat), f + q = z → q < fuel →
    whileF (mB (mBin (gIn false) (mVar 5) (mVar 3))) (mSet 5 (mBin gAdd (mVar 5) (mC (.int 1)))) fuel [some (.int (a : Nat)), some (.int (b : Nat)), some (.ref m), some (.ref w), o4, some (.int (f : Nat)), o6] s =
      some (.nx [some (.int (a : Nat)), some (.int (b : Nat)), some (.ref m), some (.ref w), o4, some (.int (z : Nat)), o6], s)
  | q, f, 0, _, h => absurd h (Nat.not_lt_zero _)
  | q, f, fuel + 1, e, hf => by
    obtain ⟨ws, g1, g2, g3⟩ := id hw
    have gi : gIn false (.int ((f : Nat) : Int)) (.ref w) s = .ok (.bl (decide (f ∈ vs))) s := by
      rw [gIn_d g1 rfl, g3]
      simp
    rw [whileF_succ]
    by_cases hq : q = 0
    · have ef : f = z := by omega
      subst ef
      rw [decide_eq_false h2] at gi
      generalize gIn false = gi' at *
      simp only [ap_B, ap_bin, ap_var, List.getElem?_cons_zero, List.getElem?_cons_succ, R.bind_ok, gi, ap_blD, R.st_ok, Bool.false_eq_true, if_false]
    · have hfv := h1 f (by omega)
      rw [decide_eq_true hfv] at gi
      have e1 : ((f : Nat) : Int) + 1 = ((f + 1 : Nat) : Int) := by omega
      rw [← least_run hw z h1 h2 (q - 1) (f + 1) fuel (by omega) (by omega)]
      generalize gIn false = gi' at *
      simp only [ap_B, ap_bin, ap_var, List.getElem?_cons_zero, List.getElem?_cons_succ, R.bind_ok, gi, ap_blD, R.st_ok, if_true, ap_set, ap_C, gAdd_i, e1, List.set_cons_succ, List.set_cons_zero, stepK_nx]
/-- _law_product -/
theorem lawprod_run : ∀ (t k : Nat), t ≤ k → ProdP (sem k) t
  | 0, _, _ => fun a b s m _ _ h => by omega
  | t + 1, 0, h => by omega
  | t + 1, k + 1, hk => by
    intro a b s m ha hb hab hm hml
    have P := lawprod_run t k (by omega)
    obtain ⟨kvs, g1, g2⟩ := id hm
    have ni : gIn true (key a b) (.ref m) s = .ok (.bl (!(kget kvs (key a b)).isSome)) s := by
      rw [gIn_d g1 (key_ok a b)]; simp
    have l2 : [D.int ((a : Nat) : Int), D.int ((b : Nat) : Int)].length ≤ lim := by
      show 2 ≤ lim
      decide
    have kd : D.tup [.int (a : Nat), .int (b : Nat)] = key a b := rfl
    rw [run_9]
    cases hg : kget kvs (key a b) with
    | some d =>
      have gx : gIx (.ref m) (key a b) s = .ok d s := by rw [gIx_d g1, if_pos (key_ok a b), hg]; rfl
      have ed := goodM_get g2 hg
      subst ed
      have ni2 : gIn true (key a b) (.ref m) s = .ok (.bl false) s := by rw [ni, hg]; rfl
      clear ni hg
      generalize nim a b = z at *
      generalize sem k = r at *
      unfold b_9
      generalize gIn true = gi at *
      generalize gIx = gx' at *
      simp only [ap_sq, ap_ifS, ap_B, ap_bin, ap_tup, ap_cons, ap_nil, ap_var, List.getElem?_cons_zero, List.getElem?_cons_succ, R.bind_ok, if_pos l2, kd, ni2, ap_blD, R.st_ok, Bool.false_eq_true, if_false, ap_nx, seqK_nx, ap_ret, gx, retK_rt, Ok_ok]
      exact ⟨trivial, hm, Nat.le_refl _, fun _ _ _ => rfl⟩
    | none =>
      have ni2 : gIn true (key a b) (.ref m) s = .ok (.bl true) s := by rw [ni, hg]; rfl
      clear ni hg
      have hra : rg ((a : Nat) : Int) = true := decide_eq_true (by omega)
      have g0 : (s ++ [O.dct false false []])[m]? = some (.dct true false kvs) := by rw [List.getElem?_append_left hml]; exact g1
      have w0 : Wt (s ++ [O.dct false false []]) s.length [] := ⟨[], by simp, Nat.le_refl _, fun v => rfl⟩
      obtain ⟨s1, o4, o6, e1, m1, l1, ⟨vs, w1, q1⟩, k1⟩ := outer_run (o5 := none) P (by omega) ha hb (Nat.ne_of_gt hml) (List.range a) (s ++ [O.dct false false []]) [] none none (fun x hx => List.mem_range.mp hx) ⟨kvs, g0, g2⟩ (by simp; omega) w0 (by simp) (by
        simp
        have : a * b ≤ 15 * 15 := Nat.mul_le_mul (by omega) (by omega)
        omega)
      have e1 : forF (Src.fix (dN' a)).ok (gP (pNm 4)) (mFor (mRange1 (mVar 1)) (gP (pNm 6)) (cellBody (sem k))) (dN' a) [some (.int (a : Nat)), some (.int (b : Nat)), some (.ref m), some (.ref s.length), none, none, none] (s ++ [O.dct false false []]) = _ := e1
      have z16 : nim a b < 16 := nim_lt (n := 2) (by decide) ha hb
      have lr := least_run (m := m) (a := a) (b := b) (o4 := o4) (o6 := o6) w1 (nim a b) (fun v hv => by
        obtain ⟨x, y, hx, hy, e⟩ := mex_all ha hb hv
        exact (q1 v).mpr (.inr ⟨x, List.mem_range.mpr hx, y, hy, e⟩)) (fun hz => by
        rcases (q1 _).mp hz with h | ⟨x, hx, y, hy, e⟩
        · cases h
        · exact mex_not ha hb (List.mem_range.mp hx) hy e) (nim a b) 0 FUEL (by omega) (by unfold FUEL; omega)
      obtain ⟨kvs1, g3, g4⟩ := id m1
      have hml1 : m < s1.length := (List.getElem?_eq_some_iff.mp g3).1
      have pt : gPut (.ref m) (key a b) (.int (nim a b : Nat)) s1 = some (s1.set m (.dct true false (kput kvs1 (key a b) (.int (nim a b : Nat))))) := gPut_d g3 (key_ok a b) (goodM_len g4)
      have g5 := goodM_put g4 ha hb
      obtain ⟨d, hd⟩ := kget_self (kvs := kvs1) (k := key a b) (v := .int (nim a b : Nat))
      have ed := goodM_get g5 hd
      subst ed
      have gx : gIx (.ref m) (key a b) (s1.set m (.dct true false (kput kvs1 (key a b) (.int (nim a b : Nat))))) = .ok (.int (nim a b : Nat)) (s1.set m (.dct true false (kput kvs1 (key a b) (.int (nim a b : Nat))))) := by
        rw [gIx_d (List.getElem?_set_self hml1), if_pos (key_ok a b), hd]; rfl
      have fin : Met (s1.set m (.dct true false (kput kvs1 (key a b) (.int (nim a b : Nat))))) m ∧ Keep s.length m s (s1.set m (.dct true false (kput kvs1 (key a b) (.int (nim a b : Nat))))) := by
        refine ⟨⟨_, List.getElem?_set_self hml1, g5⟩, by rw [List.length_set]; exact k1.1, fun i h1 h2 => ?_⟩
        rw [List.getElem?_set_ne (Ne.symm h2), k1.2 i h1 h2, List.getElem?_append_left h1]
      have gs : gSb (mVar 2) (mTup (mCons (mVar 0) (mCons (mVar 1) mNil))) (.int (nim a b : Nat)) [some (.int (a : Nat)), some (.int (b : Nat)), some (.ref m), some (.ref s.length), o4, some (.int (nim a b : Nat)), o6] s1 = .ok [some (.int (a : Nat)), some (.int (b : Nat)), some (.ref m), some (.ref s.length), o4, some (.int (nim a b : Nat)), o6] (s1.set m (.dct true false (kput kvs1 (key a b) (.int (nim a b : Nat))))) := by
        generalize nim a b = z at *
        simp only [ap_gSb, ap_tup, ap_cons, ap_nil, ap_var, List.getElem?_cons_zero, List.getElem?_cons_succ, R.bind_ok, if_pos l2, kd, pt]
      have lr0 : whileF (mB (mBin (gIn false) (mVar 5) (mVar 3))) (mSet 5 (mBin gAdd (mVar 5) (mC (.int 1)))) FUEL [some (.int (a : Nat)), some (.int (b : Nat)), some (.ref m), some (.ref s.length), o4, some (.int 0), o6] s1 = _ := lr
      generalize nim a b = z at *
      generalize s1.set m (.dct true false (kput kvs1 (key a b) (.int (z : Nat)))) = s2 at *
      generalize sem k = r at *
      unfold b_9
      have cb : cellBody r = mAsg (gSb (mVar 3) (mBin gXor (mBin gXor (mCall (r 9) (mCons (mVar 4) (mCons (mVar 1) (mCons (mVar 2) mNil)))) (mCall (r 9) (mCons (mVar 0) (mCons (mVar 6) (mCons (mVar 2) mNil))))) (mCall (r 9) (mCons (mVar 4) (mCons (mVar 6) (mCons (mVar 2) mNil)))))) (mC (.bl true)) := rfl
      rw [← cb]
      generalize cellBody r = body at *
      generalize gIn true = gi at *
      generalize gIx = gx' at *
      generalize gSb (mVar 2) (mTup (mCons (mVar 0) (mCons (mVar 1) mNil))) = gsb at *
      simp only [ap_sq, ap_ifS, ap_B, ap_bin, ap_tup, ap_cons, ap_nil, ap_var, List.getElem?_cons_zero, List.getElem?_cons_succ, R.bind_ok, if_pos l2, kd, ni2, ap_blD, R.st_ok, if_true, ap_set, ap_dct, List.set_cons_succ, List.set_cons_zero, ap_for, ap_range1, if_pos hra, range_dN, items_fix, e1, seqK_nx, ap_C, lr0, ap_asg, gs, ap_ret, gx, retK_rt, Ok_ok]
      exact ⟨trivial, fin⟩
end K61

set_option Elab.async false
set_option linter.all false
set_option maxRecDepth 100000
set_option maxHeartbeats 4000000
namespace K61
open PySem L2 Z
open NimF (nim nim_lt nim_comm nim_assoc nim_zero nim_one nim_xor nim_small nim_rec npow nsq root_sq sq_inj npow_add npow_lt npow_sq nsq_npow inv_mul nim_ne nim_cancel nim_xa nim_xx nim_xy lt64 nsq_lt)
/-- the store of the law: the box at 2 and 1, the table at 3 -/
def J (s : S) : Prop := Bx s 2 1 ∧ Met s 3
theorem lev_lt {a n m : Nat} (h1 : a < 2 ^ 2 ^ n) (h4 : m = 0 ∨ 2 ^ 2 ^ (m - 1) ≤ a) : m ≤ n := by
  rcases Nat.lt_or_ge n m with h | h
  · have : 2 ^ 2 ^ n ≤ 2 ^ 2 ^ (m - 1) := Nat.pow_le_pow_right (by decide) (Nat.pow_le_pow_right (by decide) (by omega))
    rcases h4 with h4 | h4
    · omega
    · exact absurd (Nat.lt_of_lt_of_le h1 this) (Nat.not_lt.mpr h4)
  · exact h
theorem lev_uniq {a n m : Nat} (h1 : a < 2 ^ 2 ^ n) (h2 : n = 0 ∨ 2 ^ 2 ^ (n - 1) ≤ a) (h3 : a < 2 ^ 2 ^ m) (h4 : m = 0 ∨ 2 ^ 2 ^ (m - 1) ≤ a) : n = m := Nat.le_antisymm (lev_lt h3 h2) (lev_lt h1 h4)
/-- what the law leans on -/
structure Kt (r : Nat → F) : Prop where
  prod : ∀ (a b : Nat) (s : S), a < 2 ^ 64 → b < 2 ^ 64 → r 1 [.int (a : Nat), .int (b : Nat)] s = .ok (.int (nim a b : Nat)) s
  root : ∀ (a : Nat), a < 2 ^ 64 → ∃ n, n ≤ 6 ∧ a < 2 ^ 2 ^ n ∧ ∀ s : S, r 4 [.int (a : Nat)] s = .ok (.int (nsq a (2 ^ n - 1) : Nat)) s
  inv1 : ∀ (s : S), r 3 [.int 1] s = .ok (.int 1) s
  inv : ∀ (a : Nat), a < 2 ^ 64 → 1 < a → ∃ n, n ≤ 6 ∧ 0 < n ∧ a < 2 ^ 2 ^ n ∧ 2 ^ 2 ^ (n - 1) ≤ a ∧ ∀ s : S, r 3 [.int (a : Nat)] s = .ok (.int (npow a (2 ^ 2 ^ n - 2) : Nat)) s
  same : ∀ (i : Int) (s : S), r 8 [.int i, .int i] s = .ok (.bl true) s
  same2 : ∀ (i j : Int) (s : S), r 8 [.tup [.int i, .int j], .tup [.int i, .int j]] s = .ok (.bl true) s
  same3 : ∀ (i j k : Int) (s : S), r 8 [.tup [.int i, .int j, .int k], .tup [.int i, .int j, .int k]] s = .ok (.bl true) s
  ref : ∀ (s : S), r 10 [] s = .ok (.bl true) s
  draw : ∀ (many : Nat) (s : S), 0 < many → many ≤ 2 ^ 64 → J s → ∃ (x : Nat) (s' : S), r 7 [.ref 2, .int (many : Nat)] s = .ok (.int (x : Nat)) s' ∧ x < many ∧ J s' ∧ ∀ i, 3 < i → s'[i]? = s[i]?
  lprod : ∀ (a b : Nat) (s : S), a < 16 → b < 16 → J s → ∃ s', r 9 [.int (a : Nat), .int (b : Nat), .ref 3] s = .ok (.int (nim a b : Nat)) s' ∧ J s'
theorem kt (k : Nat) (hk : 40 ≤ k) : Kt (sem k) where
  prod := fun a b s ha hb => prod64 (by omega) ha hb s
  root := fun a ha => by
    obtain ⟨j, rfl⟩ : ∃ j, k = j + 1 := ⟨k - 1, by omega⟩
    obtain ⟨n, h1, h2, h3, _⟩ := root_run (k := j) (by omega) ha []
    refine ⟨n, h1, h2, fun s => ?_⟩
    obtain ⟨m, _, g2, g3, g4⟩ := root_run (k := j) (by omega) ha s
    rw [lev_uniq h2 h3 g2 g3]
    exact g4
  inv1 := fun s => by
    obtain ⟨j, rfl⟩ : ∃ j, k = j + 1 := ⟨k - 1, by omega⟩
    exact (inv_run (k := j) (by omega) (a := 1) (by decide) s).2.1 rfl
  inv := fun a ha h1 => by
    obtain ⟨j, rfl⟩ : ∃ j, k = j + 1 := ⟨k - 1, by omega⟩
    obtain ⟨n, n6, n0, h2, h3, _⟩ := (inv_run (k := j) (by omega) ha []).2.2 h1
    refine ⟨n, n6, n0, h2, h3, fun s => ?_⟩
    obtain ⟨m, _, _, g2, g3, g4⟩ := (inv_run (k := j) (by omega) ha s).2.2 h1
    rw [lev_uniq h2 (.inr h3) g2 (.inr g3)]
    exact g4
  same := fun i s => by
    obtain ⟨j, rfl⟩ : ∃ j, k = j + 1 := ⟨k - 1, by omega⟩
    rw [same_int, decide_eq_true rfl]
  same2 := fun i j s => by
    obtain ⟨q, rfl⟩ : ∃ q, k = q + 2 := ⟨k - 2, by omega⟩
    exact same_tup q [i, j] (show 2 < lim by decide) s
  same3 := fun i j l s => by
    obtain ⟨q, rfl⟩ : ∃ q, k = q + 2 := ⟨k - 2, by omega⟩
    exact same_tup q [i, j, l] (show 3 < lim by decide) s
  ref := fun s => by
    obtain ⟨q, rfl⟩ : ∃ q, k = q + 2 := ⟨k - 2, by omega⟩
    exact refused_run (by omega) s
  draw := fun many s h0 h1 ⟨hb, hm⟩ => by
    obtain ⟨q, rfl⟩ : ∃ q, k = q + 2 := ⟨k - 2, by omega⟩
    obtain ⟨_, s', e, ⟨x, rfl, x0, x1⟩, b', o'⟩ := (draw_run q (many := (many : Nat)) (by omega) (by omega) hb).ex
    obtain ⟨kvs, g1, g2⟩ := hm
    refine ⟨x.toNat, s', ?_, by omega, ⟨b', kvs, by rw [o'.2 3 (by decide) (by decide)]; exact g1, g2⟩, fun i hi => o'.2 i (by omega) (by omega)⟩
    rw [e]
    congr 2
    omega
  lprod := fun a b s ha hb ⟨hb', hm⟩ => by
    have hml : 3 < s.length := by
      obtain ⟨kvs, g1, _⟩ := hm
      exact (List.getElem?_eq_some_iff.mp g1).1
    obtain ⟨_, s', e, rfl, m', k'⟩ := (lawprod_run k k (Nat.le_refl _) a b s 3 ha hb (by omega) hm hml).ex
    obtain ⟨hnm, cells, u, v, h1, h2, h3⟩ := hb'
    exact ⟨s', e, ⟨hnm, cells, u, v, by rw [k'.2 2 (by omega) (by decide)]; exact h1, by rw [k'.2 1 (by omega) (by decide)]; exact h2, h3⟩, m'⟩
/-- the law's names -/
def en (sc : D) (o3 o4 o5 o6 o7 o8 o9 o10 o11 o12 o13 o14 o15 o16 : Option D) : Ev := [some sc, some (.ref 2), some (.ref 3), o3, o4, o5, o6, o7, o8, o9, o10, o11, o12, o13, o14, o15, o16]
def body1 (r : Nat → F) : MS := mSq (mPar 7 13 (mCons (mCall (r 7) (mCons (mVar 1) (mCons (mC (.int 16)) mNil))) (mCons (mCall (r 7) (mCons (mVar 1) (mCons (mC (.int 16)) mNil))) mNil)))
  (mIfS (mNotB (mTru (mCall (r 8) (mCons (mCall (r 1) (mCons (mVar 7) (mCons (mVar 13) mNil))) (mCons (mCall (r 9) (mCons (mVar 7) (mCons (mVar 13) (mCons (mVar 2) mNil)))) mNil)))))
  (mRet (mC (.bl false)))
  mNx)
theorem body1_run {r : Nat → F} (T : Kt r) {s : S} (hJ : J s) (sc : D) (o3 o4 o5 o6 o7 o8 o9 o10 o11 o12 o13 o14 o15 o16 : Option D) :
    ∃ s' o7' o13', body1 r (en sc o3 o4 o5 o6 o7 o8 o9 o10 o11 o12 o13 o14 o15 o16) s = some (.nx (en sc o3 o4 o5 o6 o7' o8 o9 o10 o11 o12 o13' o14 o15 o16), s') ∧ J s' := by
  obtain ⟨a, s1, e1, ha, J1, _⟩ := T.draw 16 s (by decide) (by decide) hJ
  obtain ⟨b, s2, e2, hb, J2, _⟩ := T.draw 16 s1 (by decide) (by decide) J1
  obtain ⟨s3, e3, J3⟩ := T.lprod a b s2 ha hb J2
  have e4 := T.prod a b s2 (Nat.lt_trans ha (by decide)) (Nat.lt_trans hb (by decide))
  have e5 := T.same ((nim a b : Nat) : Int) s3
  generalize nim a b = z at *
  have e1 : r 7 [.ref 2, .int 16] s = .ok (.int (a : Nat)) s1 := e1
  have e2 : r 7 [.ref 2, .int 16] s1 = .ok (.int (b : Nat)) s2 := e2
  refine ⟨s3, some (.int (a : Nat)), some (.int (b : Nat)), ?_, J3⟩
  simp only [body1, en, ap_sq, ap_par, ap_cons, ap_nil, ap_call, ap_var, ap_C, List.getElem?_cons_zero, List.getElem?_cons_succ, R.bind_ok, e1, e2, R.st_ok, List.set_cons_succ, List.set_cons_zero, seqK_nx, ap_ifS, ap_notB, ap_tru, e3, e4, e5, truD_b, of_some, Bool.not_true, Bool.false_eq_true, if_false, ap_nx]
theorem loop1_run {r : Nat → F} (T : Kt r) (sc : D) (o4 o5 o6 o8 o9 o10 o11 o12 o14 o15 o16 : Option D) : ∀ (xs : List D) (s : S) (o3 o7 o13 : Option D), J s →
    ∃ s' o3' o7' o13', forF (fun _ => true) (gP (pNm 3)) (body1 r) xs (en sc o3 o4 o5 o6 o7 o8 o9 o10 o11 o12 o13 o14 o15 o16) s = some (.nx (en sc o3' o4 o5 o6 o7' o8 o9 o10 o11 o12 o13' o14 o15 o16), s') ∧ J s'
  | [], s, o3, o7, o13, h => ⟨s, o3, o7, o13, rfl, h⟩
  | x :: xs, s, o3, o7, o13, h => by
    obtain ⟨s1, o7', o13', e1, J1⟩ := body1_run T h sc (some x) o4 o5 o6 o7 o8 o9 o10 o11 o12 o13 o14 o15 o16
    obtain ⟨s2, p3, p7, p13, e2, J2⟩ := loop1_run T sc o4 o5 o6 o8 o9 o10 o11 o12 o14 o15 o16 xs s1 (some x) o7' o13' J1
    refine ⟨s2, p3, p7, p13, ?_, J2⟩
    rw [forF_cons rfl, ← e2]
    show (R.ok (en sc (some x) o4 o5 o6 o7 o8 o9 o10 o11 o12 o13 o14 o15 o16) s).st _ _ = _
    rw [R.st_ok, e1, stepK_nx]
end K61

set_option Elab.async false
set_option linter.all false
set_option maxRecDepth 100000
set_option maxHeartbeats 4000000
namespace K61
open PySem L2 Z
open NimF (nim nim_lt nim_comm nim_assoc nim_zero nim_one nim_xor nim_small nim_rec npow nsq root_sq sq_inj npow_add npow_lt npow_sq nsq_npow inv_mul nim_ne nim_cancel nim_xa nim_xx nim_xy lt64 nsq_lt)
def body2 (r : Nat → F) : MS := (mSq (mSet 8 (mBin gShl (mC (.int 1)) (mVar 4)))
  (mSq (mPar3 7 13 14 (mCons (mCall (r 7) (mCons (mVar 1) (mCons (mVar 8) mNil))) (mCons (mCall (r 7) (mCons (mVar 1) (mCons (mVar 8) mNil))) (mCons (mCall (r 7) (mCons (mVar 1) (mCons (mVar 8) mNil))) mNil))))
  (mSq (mSet 9 (mCall (r 1) (mCons (mVar 7) (mCons (mVar 13) mNil))))
  (mSq (mIfS (mOrB (mNotB (mTru (mCall (r 8) (mCons (mCall (r 1) (mCons (mVar 13) (mCons (mVar 7) mNil))) (mCons (mVar 9) mNil))))) (mOrB (mNotB (mB (mChain gLe gLt (mC (.int 0)) (mVar 9) (mVar 8)))) (mNotB (mTru (mCall (r 8) (mCons (mTup (mCons (mCall (r 1) (mCons (mVar 7) (mCons (mC (.int 1)) mNil))) (mCons (mCall (r 1) (mCons (mC (.int 0)) (mCons (mVar 13) mNil))) mNil))) (mCons (mTup (mCons (mVar 7) (mCons (mC (.int 0)) mNil))) mNil)))))))
  (mRet (mC (.bl false)))
  mNx)
  (mSq (mIfS (mOrB (mB (mBin gNe (mCall (r 1) (mCons (mVar 9) (mCons (mVar 14) mNil))) (mCall (r 1) (mCons (mVar 7) (mCons (mCall (r 1) (mCons (mVar 13) (mCons (mVar 14) mNil))) mNil))))) (mB (mBin gNe (mCall (r 1) (mCons (mVar 7) (mCons (mBin gXor (mVar 13) (mVar 14)) mNil))) (mBin gXor (mVar 9) (mCall (r 1) (mCons (mVar 7) (mCons (mVar 14) mNil)))))))
  (mRet (mC (.bl false)))
  mNx)
  (mSq (mSet 10 (mCall (r 4) (mCons (mVar 7) mNil)))
  (mSq (mIfS (mOrB (mNotB (mTru (mIsi (mVar 10) ["int"]))) (mOrB (mNotB (mB (mChain gLe gLt (mC (.int 0)) (mVar 10) (mVar 8)))) (mOrB (mB (mBin gNe (mCall (r 1) (mCons (mVar 10) (mCons (mVar 10) mNil))) (mVar 7))) (mNotB (mTru (mCall (r 8) (mCons (mCall (r 4) (mCons (mCall (r 1) (mCons (mVar 13) (mCons (mVar 13) mNil))) mNil)) (mCons (mVar 13) mNil))))))))
  (mRet (mC (.bl false)))
  mNx)
  (mIfS (mAndB (mB (mBin gLt (mVar 4) (mC (.int 33)))) (mB (mBin gGt (mVar 7) (mC (.int 0)))))
  (mSq (mSet 15 (mCall (r 3) (mCons (mVar 7) mNil)))
  (mIfS (mOrB (mNotB (mTru (mIsi (mVar 15) ["int"]))) (mOrB (mNotB (mB (mChain gLt gLt (mC (.int 0)) (mVar 15) (mVar 8)))) (mB (mBin gNe (mCall (r 1) (mCons (mVar 7) (mCons (mVar 15) mNil))) (mC (.int 1))))))
  (mRet (mC (.bl false)))
  mNx))
  mNx))))))))
theorem gNe_refl (i : Int) (s : S) : gNe (.int i) (.int i) s = .ok (.bl false) s := by rw [gNe_int, decide_eq_true rfl]; rfl
theorem chain_le {x : Nat} {t : Int} (h : (x : Int) < t) : decide ((0 : Int) ≤ (x : Int)) = true ∧ decide ((x : Int) < t) = true := ⟨decide_eq_true (by omega), decide_eq_true h⟩
theorem body2_run {r : Nat → F} (T : Kt r) {s : S} (hJ : J s) {p : Nat} (hp1 : 2 ≤ p) (hp : p ≤ 6) (sc : D) (o3 o5 o6 o7 o8 o9 o10 o11 o12 o13 o14 o15 o16 : Option D) :
    ∃ s' o7' o8' o9' o10' o13' o14' o15', body2 r (en sc o3 (some (.int ((2 ^ p : Nat) : Int))) o5 o6 o7 o8 o9 o10 o11 o12 o13 o14 o15 o16) s = some (.nx (en sc o3 (some (.int ((2 ^ p : Nat) : Int))) o5 o6 o7' o8' o9' o10' o11 o12 o13' o14' o15' o16), s') ∧ J s' := by
  have le64 : 2 ^ p ≤ 64 := (Nat.pow_le_pow_right (by decide) hp : 2 ^ p ≤ 2 ^ 6)
  have shl : (1 : Int) * 2 ^ ((2 ^ p : Nat) : Int).toNat = ((2 ^ 2 ^ p : Nat) : Int) := by rw [Int.toNat_natCast, Int.one_mul, w_pow]
  have csh : CSh 1 ((2 ^ p : Nat) : Int) := w_sh1 (Nat.le_trans le64 (by decide))
  have tp : 2 ^ 2 ^ p ≤ 2 ^ 64 := Nat.pow_le_pow_right (by decide) le64
  have pos := Nat.two_pow_pos (2 ^ p)
  obtain ⟨a, s1, e1, ha, J1, _⟩ := T.draw (2 ^ 2 ^ p) s pos tp hJ
  obtain ⟨b, s2, e2, hb, J2, _⟩ := T.draw (2 ^ 2 ^ p) s1 pos tp J1
  obtain ⟨c, s3, e3, hc, J3, _⟩ := T.draw (2 ^ 2 ^ p) s2 pos tp J2
  have a64 : a < 2 ^ 64 := Nat.lt_of_lt_of_le ha tp
  have b64 : b < 2 ^ 64 := Nat.lt_of_lt_of_le hb tp
  have c64 : c < 2 ^ 64 := Nat.lt_of_lt_of_le hc tp
  have nl : ∀ {x y : Nat}, x < 2 ^ 2 ^ p → y < 2 ^ 2 ^ p → nim x y < 2 ^ 2 ^ p := fun h1 h2 => nim_lt hp h1 h2
  have nl64 : ∀ {x y : Nat}, x < 2 ^ 64 → y < 2 ^ 64 → nim x y < 2 ^ 64 := fun h1 h2 => nim_lt (n := 6) (by decide) h1 h2
  -- products
  obtain ⟨ab, hab⟩ : ∃ y, y = nim a b := ⟨_, rfl⟩
  have f1 : ∀ s, r 1 [.int (a : Nat), .int (b : Nat)] s = .ok (.int (ab : Nat)) s := fun s => by rw [hab]; exact T.prod a b s a64 b64
  have f2 : ∀ s, r 1 [.int (b : Nat), .int (a : Nat)] s = .ok (.int (ab : Nat)) s := fun s => by rw [hab, nim_comm]; exact T.prod b a s b64 a64
  have f3 : ∀ s, r 1 [.int (a : Nat), .int 1] s = .ok (.int (a : Nat)) s := fun s => by
    have := T.prod a 1 s a64 (by decide)
    rw [nim_comm, nim_one a64] at this
    exact this
  have f4 : ∀ s, r 1 [.int 0, .int (b : Nat)] s = .ok (.int 0) s := fun s => by
    have := T.prod 0 b s (by decide) b64
    rw [nim_zero] at this
    exact this
  have ablt : ab < 2 ^ 2 ^ p := by rw [hab]; exact nl ha hb
  have ab64 : ab < 2 ^ 64 := Nat.lt_of_lt_of_le ablt tp
  obtain ⟨abc, habc⟩ : ∃ y, y = nim ab c := ⟨_, rfl⟩
  obtain ⟨bc, hbc⟩ : ∃ y, y = nim b c := ⟨_, rfl⟩
  have bc64 : bc < 2 ^ 64 := by rw [hbc]; exact nl64 b64 c64
  have f5 : ∀ s, r 1 [.int (ab : Nat), .int (c : Nat)] s = .ok (.int (abc : Nat)) s := fun s => by rw [habc]; exact T.prod ab c s ab64 c64
  have f6 : ∀ s, r 1 [.int (b : Nat), .int (c : Nat)] s = .ok (.int (bc : Nat)) s := fun s => by rw [hbc]; exact T.prod b c s b64 c64
  have f7 : ∀ s, r 1 [.int (a : Nat), .int (bc : Nat)] s = .ok (.int (abc : Nat)) s := fun s => by
    have e : abc = nim a bc := by rw [habc, hbc, hab, nim_assoc]
    rw [e]; exact T.prod a bc s a64 bc64
  obtain ⟨ac, hac⟩ : ∃ y, y = nim a c := ⟨_, rfl⟩
  have f8 : ∀ s, r 1 [.int (a : Nat), .int (c : Nat)] s = .ok (.int (ac : Nat)) s := fun s => by rw [hac]; exact T.prod a c s a64 c64
  have f9 : ∀ s, r 1 [.int (a : Nat), .int ((b ^^^ c : Nat) : Int)] s = .ok (.int (ab ^^^ ac : Nat)) s := fun s => by
    have e : ab ^^^ ac = nim a (b ^^^ c) := by rw [hab, hac, nim_xor b64 c64]
    rw [e]; exact T.prod a (b ^^^ c) s a64 (Nat.xor_lt_two_pow b64 c64)
  -- roots
  obtain ⟨n, n6, an, g1⟩ := T.root a a64
  obtain ⟨rt, hrt⟩ : ∃ y, y = nsq a (2 ^ n - 1) := ⟨_, rfl⟩
  have rtlt : rt < 2 ^ 2 ^ p := by rw [hrt]; exact nsq_lt hp ha _
  have rt64 : rt < 2 ^ 64 := Nat.lt_of_lt_of_le rtlt tp
  rw [← hrt] at g1
  have g2 : ∀ s, r 1 [.int (rt : Nat), .int (rt : Nat)] s = .ok (.int (a : Nat)) s := fun s => by
    have e : a = nim rt rt := by rw [hrt, root_sq n6 an]
    have := T.prod rt rt s rt64 rt64
    rw [← e] at this
    exact this
  obtain ⟨bb, hbb⟩ : ∃ y, y = nim b b := ⟨_, rfl⟩
  have bb64 : bb < 2 ^ 64 := by rw [hbb]; exact nl64 b64 b64
  have g3 : ∀ s, r 1 [.int (b : Nat), .int (b : Nat)] s = .ok (.int (bb : Nat)) s := fun s => by rw [hbb]; exact T.prod b b s b64 b64
  have g4 : ∀ s, r 4 [.int (bb : Nat)] s = .ok (.int (b : Nat)) s := fun s => by
    obtain ⟨m, m6, bm, h⟩ := T.root bb bb64
    have e : nsq bb (2 ^ m - 1) = b := sq_inj (n := 6) (by decide) (nsq_lt (n := 6) (by decide) bb64 _) b64 (by rw [root_sq m6 bm, hbb])
    have h := h s
    rw [e] at h
    exact h
  -- inverses
  have hinv : 0 < a → ∃ iv : Nat, 0 < iv ∧ iv < 2 ^ 2 ^ p ∧ (∀ s, r 3 [.int (a : Nat)] s = .ok (.int (iv : Nat)) s) ∧ ∀ s, r 1 [.int (a : Nat), .int (iv : Nat)] s = .ok (.int 1) s := fun h0 => by
    by_cases h1 : a = 1
    · subst h1
      refine ⟨1, by decide, ha, fun s => T.inv1 s, fun s => ?_⟩
      have := T.prod 1 1 s (by decide) (by decide)
      rw [nim_one (by decide)] at this
      exact this
    · obtain ⟨m, m6, m0, am, alo, h⟩ := T.inv a a64 (by omega)
      have mp : m ≤ p := lev_lt ha (.inr alo)
      have e1 := inv_mul m6 m0 am (by omega : a ≠ 0)
      have lt := npow_lt m6 am (2 ^ 2 ^ m - 2)
      have mm : 2 ^ 2 ^ m ≤ 2 ^ 2 ^ p := Nat.pow_le_pow_right (by decide) (Nat.pow_le_pow_right (by decide) mp)
      generalize npow a (2 ^ 2 ^ m - 2) = iv at *
      have ivlt : iv < 2 ^ 2 ^ p := Nat.lt_of_lt_of_le lt mm
      refine ⟨iv, ?_, ivlt, h, fun s => ?_⟩
      · rcases Nat.eq_zero_or_pos iv with z | z
        · subst z
          rw [nim_comm, nim_zero] at e1
          cases e1
        · exact z
      · have := T.prod a iv s a64 (Nat.lt_of_lt_of_le ivlt tp)
        rw [e1] at this
        exact this
  have c1 : decide ((0 : Int) ≤ (ab : Int)) = true := decide_eq_true (by omega)
  have c2 : decide ((ab : Int) < ((2 ^ 2 ^ p : Nat) : Int)) = true := decide_eq_true (by omega)
  have c3 : decide ((0 : Int) ≤ (rt : Int)) = true := decide_eq_true (by omega)
  have c4 : decide ((rt : Int) < ((2 ^ 2 ^ p : Nat) : Int)) = true := decide_eq_true (by omega)
  have sm := T.same
  have sm2 := T.same2
  have i1 : (["int"].any fun c => isaB "int" c) = true := rfl
  have l2 : ∀ x y : D, [x, y].length ≤ lim := fun x y => by
    show 2 ≤ lim
    decide
  have hx1 : Builtin.bitXor (b : Int) (c : Int) = ((b ^^^ c : Nat) : Int) := xor_nat b c
  have hx2 : Builtin.bitXor (ab : Int) (ac : Int) = ((ab ^^^ ac : Nat) : Int) := xor_nat ab ac
  have nr := gNe_refl
  have e1 : r 7 [.ref 2, .int ((2 ^ 2 ^ p : Nat) : Int)] s = _ := e1
  clear T an hab habc hbc hac hrt hbb
  unfold body2
  generalize gNe = gn at *
  have gt0 : ∀ x : Nat, decide ((0 : Int) < (x : Int)) = decide (0 < x) := fun x => decide_eq_decide.mpr (by omega)
  generalize 2 ^ 2 ^ p = tv at *
  generalize 2 ^ p = bv at *
  by_cases hcond : ((bv : Nat) : Int) < 33 ∧ 0 < a
  · obtain ⟨h33, h0⟩ := hcond
    obtain ⟨iv, iv0, ivlt, e5, e6⟩ := hinv h0
    have d1 : decide (((bv : Nat) : Int) < 33) = true := decide_eq_true h33
    have d2 : decide ((0 : Int) < ((a : Nat) : Int)) = true := decide_eq_true (by omega)
    have d3 : decide ((0 : Int) < ((iv : Nat) : Int)) = true := decide_eq_true (by omega)
    have d4 : decide (((iv : Nat) : Int) < ((tv : Nat) : Int)) = true := decide_eq_true (by omega)
    refine ⟨s3, some (.int (a : Nat)), some (.int (tv : Nat)), some (.int (ab : Nat)), some (.int (rt : Nat)), some (.int (b : Nat)), some (.int (c : Nat)), some (.int (iv : Nat)), ?_, J3⟩
    simp only [en, ap_sq, ap_set, ap_bin, ap_C, ap_var, List.getElem?_cons_zero, List.getElem?_cons_succ, R.bind_ok, gShl_i, if_pos csh, shl, R.st_ok, List.set_cons_succ, List.set_cons_zero, seqK_nx, ap_par3, ap_cons, ap_nil, ap_call, e1, e2, e3, f1, f2, f3, f4, f5, f6, f7, f8, f9, g1, g2, g3, g4, ap_ifS, ap_orB, ap_andB, ap_notB, ap_tru, ap_B, ap_chain, ap_tup, if_pos (l2 _ _), gCmp_i, c1, c2, c3, c4, sm, sm2, truD_b, of_some, Bool.not_true, Bool.false_eq_true, if_false, if_true, ap_blD, ap_nx, gXor_i, hx1, hx2, nr, ap_isi, ty_i, Option.map_some, i1, d1, d2, d3, d4, e5, e6]
  · refine ⟨s3, some (.int (a : Nat)), some (.int (tv : Nat)), some (.int (ab : Nat)), some (.int (rt : Nat)), some (.int (b : Nat)), some (.int (c : Nat)), o15, ?_, J3⟩
    by_cases h33 : ((bv : Nat) : Int) < 33
    · have d1 : decide (((bv : Nat) : Int) < 33) = true := decide_eq_true h33
      have d2 : decide ((0 : Int) < ((a : Nat) : Int)) = false := decide_eq_false (fun z => hcond ⟨h33, by omega⟩)
      simp only [en, ap_sq, ap_set, ap_bin, ap_C, ap_var, List.getElem?_cons_zero, List.getElem?_cons_succ, R.bind_ok, gShl_i, if_pos csh, shl, R.st_ok, List.set_cons_succ, List.set_cons_zero, seqK_nx, ap_par3, ap_cons, ap_nil, ap_call, e1, e2, e3, f1, f2, f3, f4, f5, f6, f7, f8, f9, g1, g2, g3, g4, ap_ifS, ap_orB, ap_andB, ap_notB, ap_tru, ap_B, ap_chain, ap_tup, if_pos (l2 _ _), gCmp_i, c1, c2, c3, c4, sm, sm2, truD_b, of_some, Bool.not_true, Bool.false_eq_true, if_false, if_true, ap_blD, ap_nx, gXor_i, hx1, hx2, nr, ap_isi, ty_i, Option.map_some, i1, d1, d2]
    · have d1 : decide (((bv : Nat) : Int) < 33) = false := decide_eq_false h33
      simp only [en, ap_sq, ap_set, ap_bin, ap_C, ap_var, List.getElem?_cons_zero, List.getElem?_cons_succ, R.bind_ok, gShl_i, if_pos csh, shl, R.st_ok, List.set_cons_succ, List.set_cons_zero, seqK_nx, ap_par3, ap_cons, ap_nil, ap_call, e1, e2, e3, f1, f2, f3, f4, f5, f6, f7, f8, f9, g1, g2, g3, g4, ap_ifS, ap_orB, ap_andB, ap_notB, ap_tru, ap_B, ap_chain, ap_tup, if_pos (l2 _ _), gCmp_i, c1, c2, c3, c4, sm, sm2, truD_b, of_some, Bool.not_true, Bool.false_eq_true, if_false, if_true, ap_blD, ap_nx, gXor_i, hx1, hx2, nr, ap_isi, ty_i, Option.map_some, i1, d1]
end K61

set_option Elab.async false
set_option linter.all false
set_option maxRecDepth 100000
set_option maxHeartbeats 4000000
namespace K61
open PySem L2 Z
open NimF (nim nim_lt nim_comm nim_assoc nim_zero nim_one nim_xor nim_small nim_rec npow nsq root_sq sq_inj npow_add npow_lt npow_sq nsq_npow inv_mul nim_ne nim_cancel nim_xa nim_xx nim_xy lt64 nsq_lt)
theorem loop2_run {r : Nat → F} (T : Kt r) (sc : D) (o3 o5 o6 o11 o12 o16 : Option D) : ∀ (ps : List Nat) (s : S) (o4 o7 o8 o9 o10 o13 o14 o15 : Option D), (∀ p ∈ ps, 2 ≤ p ∧ p ≤ 6) → J s →
    ∃ s' o4' o7' o8' o9' o10' o13' o14' o15', forF (fun _ => true) (gP (pNm 4)) (body2 r) (ps.map fun p => D.int ((2 ^ p : Nat) : Int)) (en sc o3 o4 o5 o6 o7 o8 o9 o10 o11 o12 o13 o14 o15 o16) s = some (.nx (en sc o3 o4' o5 o6 o7' o8' o9' o10' o11 o12 o13' o14' o15' o16), s') ∧ J s'
  | [], s, o4, o7, o8, o9, o10, o13, o14, o15, _, h => ⟨s, o4, o7, o8, o9, o10, o13, o14, o15, rfl, h⟩
  | p :: ps, s, o4, o7, o8, o9, o10, o13, o14, o15, hp, h => by
    obtain ⟨h1, h2⟩ := hp p (by simp)
    obtain ⟨s1, p7, p8, p9, p10, p13, p14, p15, e1, J1⟩ := body2_run T h h1 h2 sc o3 o5 o6 o7 o8 o9 o10 o11 o12 o13 o14 o15 o16
    obtain ⟨s2, q4, q7, q8, q9, q10, q13, q14, q15, e2, J2⟩ := loop2_run T sc o3 o5 o6 o11 o12 o16 ps s1 (some (.int ((2 ^ p : Nat) : Int))) p7 p8 p9 p10 p13 p14 p15 (fun z hz => hp z (by simp [hz])) J1
    refine ⟨s2, q4, q7, q8, q9, q10, q13, q14, q15, ?_, J2⟩
    rw [List.map_cons, forF_cons rfl, ← e2]
    show (R.ok (en sc o3 (some (.int ((2 ^ p : Nat) : Int))) o5 o6 o7 o8 o9 o10 o11 o12 o13 o14 o15 o16) s).st _ _ = _
    rw [R.st_ok, e1, stepK_nx]
/-- a comprehension whose items are values of the names alone -/
theorem lcF_map {ok : S → Bool} {g : Gp} {te : M D} {ρ : Ev} (f : D → D) : ∀ (ds acc : List D) (s : S), ok s = true → (∀ d ∈ ds, ∃ ρ1, g d ρ = some ρ1 ∧ te ρ1 s = .ok (f d) s) → acc.length + ds.length ≤ lim → lcF ok g mYes te ρ ds acc s = .ok (acc ++ ds.map f) s
  | [], acc, s, h, _, _ => by rw [lcF_nil h]; simp
  | d :: ds, acc, s, h, hd, hl => by
    obtain ⟨ρ1, h1, h2⟩ := hd d (by simp)
    simp at hl
    rw [lcF_cons h, h1]
    have : acc.length < lim := by omega
    simp only [ap_yes, R.bindN_ok, if_true, h2, if_pos this]
    rw [lcF_map f ds (acc ++ [f d]) s h (fun x hx => hd x (by simp [hx])) (by simp; omega)]
    simp
def tailB (r : Nat → F) : MS := (mSq (mSet 5 (mRef (mLc (mRange1 (mC (.int 6))) (pNm 16) [16] mYes (mBin gShl (mC (.int 1)) (mBin gShl (mC (.int 1)) (mVar 16))))))
  (mSq (mPar 11 12 (mCons (mCall (r 7) (mCons (mVar 1) (mCons (mC (.int 6)) mNil))) (mCons (mCall (r 7) (mCons (mVar 1) (mCons (mC (.int 6)) mNil))) mNil)))
  (mSq (mSet 6 (mBin gIx (mVar 5) (mVar 11)))
  (mSq (mIfS (mNotB (mTru (mCall (r 8) (mCons (mCall (r 1) (mCons (mVar 6) (mCons (mVar 6) mNil))) (mCons (mBin gAdd (mVar 6) (mBin gFdv (mVar 6) (mC (.int 2)))) mNil)))))
  (mRet (mC (.bl false)))
  mNx)
  (mSq (mIfS (mAndB (mB (mBin gNe (mVar 11) (mVar 12))) (mNotB (mTru (mCall (r 8) (mCons (mCall (r 1) (mCons (mVar 6) (mCons (mBin gIx (mVar 5) (mVar 12)) mNil))) (mCons (mBin gMul (mVar 6) (mBin gIx (mVar 5) (mVar 12))) mNil))))))
  (mRet (mC (.bl false)))
  mNx)
  (mSq (mSet 7 (mCall (r 7) (mCons (mVar 1) (mCons (mVar 6) mNil))))
  (mRet (mAnd (mCall (r 8) (mCons (mCall (r 1) (mCons (mVar 6) (mCons (mVar 7) mNil))) (mCons (mBin gMul (mVar 6) (mVar 7)) mNil))) (mAnd (mCall0 (r 10)) (mCall (r 8) (mCons (mTup (mCons (mCall (r 3) (mCons (mC (.int 1)) mNil)) (mCons (mCall (r 3) (mCons (mC (.int 2)) mNil)) (mCons (mCall (r 3) (mCons (mC (.int 3)) mNil)) mNil)))) (mCons (mTup (mCons (mC (.int 1)) (mCons (mC (.int 3)) (mCons (mC (.int 2)) mNil)))) mNil))))))))))))
def pows : List D := (List.range 6).map fun k => D.int ((2 ^ 2 ^ k : Nat) : Int)
theorem pows_run (ρ : Ev) (h : 16 < ρ.length) (s : S) : mLc (mRange1 (mC (.int 6))) (pNm 16) [16] mYes (mBin gShl (mC (.int 1)) (mBin gShl (mC (.int 1)) (mVar 16))) ρ s = .ok pows s := by
  have hr : rg 6 = true := rfl
  have h6 : rangeD 0 (6 : Int).toNat = (List.range 6).map fun k => D.int ((k : Nat) : Int) := by
    unfold rangeD
    refine List.map_congr_left fun k _ => ?_
    rw [Int.zero_add]
  have hw : (wipeD ρ [16]).length = ρ.length := by simp [wipeD]
  simp only [ap_lc, ap_range1, ap_C, R.bind_ok, if_pos hr, items_fix]
  rw [lcF_map (fun d => match d with | .int i => D.int (1 * 2 ^ (1 * 2 ^ i.toNat : Int).toNat) | _ => .non) _ _ _ rfl ?_ ?_]
  · rw [h6]
    rfl
  · rw [h6]
    intro d hd
    obtain ⟨k, hk, rfl⟩ := List.mem_map.mp hd
    have hk := List.mem_range.mp hk
    refine ⟨_, rfl, ?_⟩
    have g : ((wipeD ρ [16]).set 16 (some (D.int ((k : Nat) : Int))))[16]? = some (some (D.int ((k : Nat) : Int))) := List.getElem?_set_self (by omega)
    have c1 : CSh 1 ((k : Nat) : Int) := w_sh1 (by omega)
    have e : (1 : Int) * 2 ^ ((k : Nat) : Int).toNat = ((2 ^ k : Nat) : Int) := by rw [Int.toNat_natCast, Int.one_mul, w_pow]
    have le : 2 ^ k ≤ 32 := (Nat.pow_le_pow_right (by decide) (by omega) : 2 ^ k ≤ 2 ^ 5)
    have c2 : CSh 1 ((2 ^ k : Nat) : Int) := w_sh1 (Nat.le_trans le (by decide))
    simp only [ap_bin, ap_C, ap_var, g, R.bind_ok, gShl_i, if_pos c1, e, if_pos c2]
  · rw [h6]; simp; decide
end K61

set_option Elab.async false
set_option linter.all false
set_option maxRecDepth 100000
set_option maxHeartbeats 4000000
namespace K61
open PySem L2 Z
open NimF (nim nim_lt nim_comm nim_assoc nim_zero nim_one nim_xor nim_small nim_rec npow nsq root_sq sq_inj npow_add npow_lt npow_sq nsq_npow inv_mul nim_ne nim_cancel nim_xa nim_xx nim_xy lt64 nsq_lt)
theorem J.len {s : S} (h : J s) : 3 < s.length := by
  obtain ⟨_, kvs, g1, _⟩ := h
  exact (List.getElem?_eq_some_iff.mp g1).1
theorem J.app {s : S} (h : J s) (o : O) : J (s ++ [o]) := by
  have hl := h.len
  obtain ⟨⟨h1, cells, u, v, h2, h3, h4⟩, kvs, g1, g2⟩ := h
  exact ⟨⟨h1, cells, u, v, by rw [List.getElem?_append_left (by omega)]; exact h2, by rw [List.getElem?_append_left (by omega)]; exact h3, h4⟩, kvs, by rw [List.getElem?_append_left (by omega)]; exact g1, g2⟩
theorem inv_small {r : Nat → F} (T : Kt r) (s : S) : r 3 [.int 2] s = .ok (.int 3) s ∧ r 3 [.int 3] s = .ok (.int 2) s := by
  have t22 : nim 2 2 = 3 := tab_nim 2 (by decide) 2 (by decide)
  have t33 : nim 3 3 = 2 := tab_nim 3 (by decide) 3 (by decide)
  have p2 : npow 2 2 = 3 := by
    show nim (nim 1 2) 2 = 3
    rw [nim_one (by decide), t22]
  have p3 : npow 3 2 = 2 := by
    show nim (nim 1 3) 3 = 2
    rw [nim_one (by decide), t33]
  constructor
  · obtain ⟨n, _, n0, h1, h2, h3⟩ := T.inv 2 (by decide) (by decide)
    have e : n = 1 := lev_uniq h1 (.inr h2) (by decide) (.inr (by decide))
    subst e
    have h := h3 s
    have e2 : 2 ^ 2 ^ 1 - 2 = 2 := by decide
    rw [e2, p2] at h
    exact h
  · obtain ⟨n, _, n0, h1, h2, h3⟩ := T.inv 3 (by decide) (by decide)
    have e : n = 1 := lev_uniq h1 (.inr h2) (by decide) (.inr (by decide))
    subst e
    have h := h3 s
    have e2 : 2 ^ 2 ^ 1 - 2 = 2 := by decide
    rw [e2, p3] at h
    exact h
theorem pows_at {i : Nat} (h : i < 6) : atI pows ((i : Nat) : Int) = some (.int ((2 ^ 2 ^ i : Nat) : Int)) := atI_nat (by
  unfold pows
  rw [List.getElem?_map, List.getElem?_range h]
  rfl)
theorem tail_run {r : Nat → F} (T : Kt r) {s : S} (hJ : J s) (sc : D) (o3 o4 o5 o6 o7 o8 o9 o10 o11 o12 o13 o14 o15 o16 : Option D) :
    ∃ s', tailB r (en sc o3 o4 o5 o6 o7 o8 o9 o10 o11 o12 o13 o14 o15 o16) s = some (.rt (.bl true), s') := by
  have hl := hJ.len
  have J1 := hJ.app (.lst pows)
  have w1 : (s ++ [O.lst pows])[s.length]? = some (.lst pows) := by simp
  obtain ⟨i, s2, e1, hi, J2, k2⟩ := T.draw 6 (s ++ [.lst pows]) (by decide) (by decide) J1
  obtain ⟨j, s3, e2, hj, J3, k3⟩ := T.draw 6 s2 (by decide) (by decide) J2
  have w3 : s3[s.length]? = some (.lst pows) := by rw [k3 _ hl, k2 _ hl]; exact w1
  have gi : gIx (.ref s.length) (.int (i : Nat)) s3 = .ok (.int ((2 ^ 2 ^ i : Nat) : Int)) s3 := by rw [gIx_r w3, pows_at hi]; rfl
  have gj : gIx (.ref s.length) (.int (j : Nat)) s3 = .ok (.int ((2 ^ 2 ^ j : Nat) : Int)) s3 := by rw [gIx_r w3, pows_at hj]; rfl
  have h64 : ∀ {i : Nat}, i < 6 → 2 ^ 2 ^ i < 2 ^ 64 := fun {i} h => by
    have : 2 ^ i ≤ 32 := (Nat.pow_le_pow_right (by decide) (by omega) : 2 ^ i ≤ 2 ^ 5)
    exact Nat.pow_lt_pow_right (by decide) (by omega)
  have pos := Nat.two_pow_pos (2 ^ i)
  obtain ⟨a, s4, e3, ha, J4, k4⟩ := T.draw (2 ^ 2 ^ i) s3 pos (Nat.le_of_lt (h64 hi)) J3
  have a64 : a < 2 ^ 64 := Nat.lt_trans ha (h64 hi)
  have f1 : ∀ s, r 1 [.int ((2 ^ 2 ^ i : Nat) : Int), .int ((2 ^ 2 ^ i : Nat) : Int)] s = .ok (.int (((2 ^ 2 ^ i : Nat) : Int) + ((2 ^ 2 ^ i : Nat) : Int) / 2)) s := fun s => by
    have h := T.prod (2 ^ 2 ^ i) (2 ^ 2 ^ i) s (h64 hi) (h64 hi)
    rw [nim_xx hi] at h
    rw [h]
    congr 2
  have f2 : i ≠ j → ∀ s, r 1 [.int ((2 ^ 2 ^ i : Nat) : Int), .int ((2 ^ 2 ^ j : Nat) : Int)] s = .ok (.int (((2 ^ 2 ^ i : Nat) : Int) * ((2 ^ 2 ^ j : Nat) : Int))) s := fun hne s => by
    have h := T.prod (2 ^ 2 ^ i) (2 ^ 2 ^ j) s (h64 hi) (h64 hj)
    rw [nim_xy hi hj hne] at h
    rw [h]
    congr 2
  have f3 : ∀ s, r 1 [.int ((2 ^ 2 ^ i : Nat) : Int), .int (a : Nat)] s = .ok (.int (((2 ^ 2 ^ i : Nat) : Int) * (a : Int))) s := fun s => by
    have h := T.prod (2 ^ 2 ^ i) a s (h64 hi) a64
    rw [nim_xa hi ha] at h
    rw [h]
    congr 2
  have pw := pows_run (en sc o3 o4 o5 o6 o7 o8 o9 o10 o11 o12 o13 o14 o15 o16) (by show 16 < 17; decide) s
  have cm : ∀ x : Int, CM ((2 ^ 2 ^ i : Nat) : Int) x := fun x => .inl (by
    have := h64 hi
    generalize 2 ^ 2 ^ i = y at *
    exact this)
  have cd : CDv ((2 ^ 2 ^ i : Nat) : Int) 2 := cdv2
  have sm := T.same
  have sm3 := T.same3 1 3 2
  have v1 := T.inv1
  have v2 := fun s => (inv_small T s).1
  have v3 := fun s => (inv_small T s).2
  have rf := T.ref
  have l3 : ∀ x y z : D, [x, y, z].length ≤ lim := fun x y z => by
    show 3 ≤ lim
    decide
  have ni : gNe (.int (i : Nat)) (.int (j : Nat)) s3 = .ok (.bl (!decide (i = j))) s3 := by
    rw [gNe_int]
    congr 3
    exact decide_eq_decide.mpr ⟨fun h => Int.ofNat.inj h, fun h => by rw [h]⟩
  have e1 : r 7 [.ref 2, .int 6] (s ++ [.lst pows]) = .ok (.int (i : Nat)) s2 := e1
  have e2 : r 7 [.ref 2, .int 6] s2 = .ok (.int (j : Nat)) s3 := e2
  clear T h64 pos a64 ha w1 w3
  generalize 2 ^ 2 ^ i = hi' at *
  generalize 2 ^ 2 ^ j = hj' at *
  refine ⟨s4, ?_⟩
  unfold tailB
  generalize gNe = gn at *
  generalize gIx = gx at *
  have pw' := pw
  generalize mLc (mRange1 (mC (.int 6))) (pNm 16) [16] mYes (mBin gShl (mC (.int 1)) (mBin gShl (mC (.int 1)) (mVar 16))) = ml at *
  unfold en at pw'
  clear pw
  by_cases hne : i = j
  · have d : (!decide (i = j)) = false := by rw [decide_eq_true hne]; rfl
    rw [d] at ni
    simp only [en, ap_sq, ap_set, ap_ref, pw', R.bind_ok, R.st_ok, List.set_cons_succ, List.set_cons_zero, seqK_nx, ap_par, ap_cons, ap_nil, ap_call, ap_var, ap_C, List.getElem?_cons_zero, List.getElem?_cons_succ, e1, e2, ap_bin, gi, gj, ap_ifS, ap_notB, ap_tru, f1, gAdd_i, gFdv_i, if_pos cd, sm, truD_b, of_some, Bool.not_true, Bool.false_eq_true, if_false, if_true, ap_nx, ap_andB, ap_B, ni, ap_blD, gMul_i, if_pos (cm _), e3, ap_ret, ap_and, f3, ap_call0, rf, v1, v2, v3, ap_tup, if_pos (l3 _ _ _), sm3]
  · have d : (!decide (i = j)) = true := by rw [decide_eq_false hne]; rfl
    rw [d] at ni
    have f2 := f2 hne
    simp only [en, ap_sq, ap_set, ap_ref, pw', R.bind_ok, R.st_ok, List.set_cons_succ, List.set_cons_zero, seqK_nx, ap_par, ap_cons, ap_nil, ap_call, ap_var, ap_C, List.getElem?_cons_zero, List.getElem?_cons_succ, e1, e2, ap_bin, gi, gj, ap_ifS, ap_notB, ap_tru, f1, gAdd_i, gFdv_i, if_pos cd, sm, truD_b, of_some, Bool.not_true, Bool.false_eq_true, if_false, if_true, ap_nx, ap_andB, ap_B, ni, ap_blD, gMul_i, if_pos (cm _), e3, ap_ret, ap_and, f3, ap_call0, rf, v1, v2, v3, ap_tup, if_pos (l3 _ _ _), sm3, f2]
/-- the law -/
theorem plain : Law := by
  intro a ns hl
  have T := kt 59 (by decide)
  obtain ⟨_, s0, e0, rfl, b0, l0⟩ := (box_run 58 a ns hl []).ex
  have e0 : sem 59 5 [.kl a ns] [] = .ok (.ref 2) s0 := e0
  have b0 : Bx s0 2 1 := b0
  have l0 : s0.length = 3 := l0
  have J0 : J (s0 ++ [.dct true false []]) := by
    obtain ⟨h1, cells, u, v, h2, h3, h4⟩ := b0
    refine ⟨⟨h1, cells, u, v, by rw [List.getElem?_append_left (by omega)]; exact h2, by rw [List.getElem?_append_left (by omega)]; exact h3, h4⟩, [], ?_, List.nodup_nil, fun p h => by cases h⟩
    rw [List.getElem?_append_right (by omega), l0]
    rfl
  show ∃ s, sem (59 + 1) 11 [.kl a ns] [] = .ok (.bl true) s
  rw [run_11]
  generalize sem 59 = r at *
  have h6 : ∀ n : Nat, rg ((n : Nat) : Int) = decide (n < 2 ^ 62) := fun n => rfl
  have hr : rg 6 = true := rfl
  have eb : b_11 r = mSq (mSet 1 (mCall (r 5) (mCons (mVar 0) mNil))) (mSq (mSet 2 (mDct true)) (mSq (mFor (mRange1 (mC (.int 6))) (gP (pNm 3)) (body1 r)) (mSq (mFor (mSrcV (mTup (mCons (mC (.int 4)) (mCons (mC (.int 8)) (mCons (mC (.int 16)) (mCons (mIxL (mLim (mCons (mC (.int 32)) (mCons (mC (.int 64)) mNil))) (mCall (r 7) (mCons (mVar 1) (mCons (mC (.int 2)) mNil)))) mNil)))))) (gP (pNm 4)) (body2 r)) (tailB r)))) := rfl
  obtain ⟨s1, o3, o7, o13, e1, J1⟩ := loop1_run T (.kl a ns) none none none none none none none none none none none (rangeD 0 (6 : Int).toNat) (s0 ++ [.dct true false []]) none none none J0
  obtain ⟨q, s2, e2, hq, J2, _⟩ := T.draw 2 s1 (by decide) (by decide) J1
  have e2 : r 7 [.ref 2, .int 2] s1 = .ok (.int (q : Nat)) s2 := e2
  have at5 : atI [D.int 32, D.int 64] ((q : Nat) : Int) = some (.int ((2 ^ (5 + q) : Nat) : Int)) := by
    have : q = 0 ∨ q = 1 := by omega
    rcases this with rfl | rfl <;> rfl
  obtain ⟨s3, o4, p7, o8, o9, o10, p13, o14, o15, e3, J3⟩ := loop2_run T (.kl a ns) o3 none none none none none [2, 3, 4, 5 + q] s2 none o7 none none none o13 none none (fun p hp => by
    simp at hp
    omega) J2
  obtain ⟨s4, e4⟩ := tail_run T J3 (.kl a ns) o3 o4 none none p7 o8 o9 o10 none none p13 o14 o15 none
  have e1 : forF (Src.fix (rangeD 0 (6 : Int).toNat)).ok (gP (pNm 3)) (body1 r) (rangeD 0 (6 : Int).toNat) (en (.kl a ns) none none none none none none none none none none none none none none) (s0 ++ [.dct true false []]) = _ := e1
  have e3 : forF (Src.fix [D.int 4, D.int 8, D.int 16, D.int ((2 ^ (5 + q) : Nat) : Int)]).ok (gP (pNm 4)) (body2 r) [D.int 4, D.int 8, D.int 16, D.int ((2 ^ (5 + q) : Nat) : Int)] (en (.kl a ns) o3 none none none o7 none none none none none o13 none none none) s2 = _ := e3
  have l4 : ∀ x y z w : D, [x, y, z, w].length ≤ lim := fun x y z w => by
    show 4 ≤ lim
    decide
  have l2 : ∀ x y : D, [x, y].length ≤ lim := fun x y => by
    show 2 ≤ lim
    decide
  refine ⟨s4, ?_⟩
  rw [eb]
  clear T eb
  generalize body1 r = c1 at *
  generalize body2 r = c2 at *
  generalize tailB r = c3 at *
  unfold en at e1 e3 e4
  simp only [ap_sq, ap_set, ap_call, ap_cons, ap_nil, ap_var, List.getElem?_cons_zero, List.getElem?_cons_succ, R.bind_ok, e0, R.st_ok, List.set_cons_succ, List.set_cons_zero, seqK_nx, ap_dct, l0, ap_for, ap_range1, ap_C, if_pos hr, items_fix, e1, ap_srcV, ap_tup, ap_ixL, ap_lim, if_pos (l2 _ _), e2, at5, of_some, if_pos (l4 _ _ _ _), e3, e4, retK_rt]
end K61

set_option Elab.async false
set_option linter.all false
set_option maxRecDepth 100000
set_option maxHeartbeats 4000000
namespace K61
open PySem L2 Z
def top (i : Nat) : Stmt := PySem.Challenge.pw_cantmove_k61_whole_products.main.body.getD i (.Pass ⟨0, 0, 0, 0⟩)
abbrev s_0 : Stmt := top 8
abbrev s_1 : Stmt := top 9
abbrev s_2 : Stmt := top 10
abbrev s_3 : Stmt := top 11
abbrev s_4 : Stmt := top 12
abbrev s_5 : Stmt := top 14
abbrev s_6 : Stmt := top 15
abbrev s_7 : Stmt := top 16
abbrev s_8 : Stmt := top 17
abbrev s_9 : Stmt := top 18
abbrev s_10 : Stmt := top 19
abbrev s_11 : Stmt := top 20
theorem sc_0 : FnScope ["a", "found"] ["a"] (defScope s_0) := ⟨rfl, rfl, rfl, by decide +kernel, rfl, by decide +kernel, by decide +kernel⟩
theorem sc_1 : FnScope ["a", "b", "half", "mask", "lows", "highs", "mixed", "high", "low", "other_high", "other_low"] ["a", "b"] (defScope s_1) := ⟨rfl, rfl, rfl, by decide +kernel, rfl, by decide +kernel, by decide +kernel⟩
theorem sc_2 : FnScope ["a", "k", "found"] ["a", "k"] (defScope s_2) := ⟨rfl, rfl, rfl, by decide +kernel, rfl, by decide +kernel, by decide +kernel⟩
theorem sc_3 : FnScope ["a"] ["a"] (defScope s_3) := ⟨rfl, rfl, rfl, by decide +kernel, rfl, by decide +kernel, by decide +kernel⟩
theorem sc_4 : FnScope ["a", "_"] ["a"] (defScope s_4) := ⟨rfl, rfl, rfl, by decide +kernel, rfl, by decide +kernel, by decide +kernel⟩
theorem sc_5 : FnScope ["script"] ["script"] (defScope s_5) := ⟨rfl, rfl, rfl, by decide +kernel, rfl, by decide +kernel, by decide +kernel⟩
theorem sc_6 : FnScope ["box", "cells", "first", "second", "cell", "size"] ["box"] (defScope s_6) := ⟨rfl, rfl, rfl, by decide +kernel, rfl, by decide +kernel, by decide +kernel⟩
theorem sc_7 : FnScope ["box", "many", "digit"] ["box", "many"] (defScope s_7) := ⟨rfl, rfl, rfl, by decide +kernel, rfl, by decide +kernel, by decide +kernel⟩
theorem sc_8 : FnScope ["a", "b", "k"] ["a", "b"] (defScope s_8) := ⟨rfl, rfl, rfl, by decide +kernel, rfl, by decide +kernel, by decide +kernel⟩
theorem sc_9 : FnScope ["a", "b", "met", "worths", "x", "found", "y"] ["a", "b", "met"] (defScope s_9) := ⟨rfl, rfl, rfl, by decide +kernel, rfl, by decide +kernel, by decide +kernel⟩
theorem sc_10 : FnScope ["error"] [] (defScope s_10) := ⟨rfl, rfl, rfl, by decide +kernel, rfl, by decide +kernel, by decide +kernel⟩
theorem sc_11 : FnScope ["script", "box", "met", "turn", "bits", "powers", "high", "a", "top", "ab", "root", "i", "j", "b", "c", "inverse_there", "k"] ["script"] (defScope s_11) := ⟨rfl, rfl, rfl, by decide +kernel, rfl, by decide +kernel, by decide +kernel⟩
def nameOf : Nat → Str
  | 0 => "level_of"
  | 1 => "nim_product"
  | 2 => "nim_power"
  | 3 => "nim_inverse"
  | 4 => "nim_root"
  | 5 => "_law_box"
  | 6 => "_law_load"
  | 7 => "_law_draw"
  | 8 => "_law_same"
  | 9 => "_law_product"
  | 10 => "_law_refused"
  | 11 => "law"
  | _ => "law"
structure Txt (K : PySem.W.Frag) (mg : Str → Option Value) (c_BadText : Addr) (c_NoAnswer : Addr) (c_NotAllowed : Addr) (c_NotPossible : Addr) (c_TooMany : Addr) : Prop where
  n_all : mg "all" = none
  n_bool : mg "bool" = none
  n_int : mg "int" = none
  n_isinstance : mg "isinstance" = none
  n_len : mg "len" = none
  n_list : mg "list" = none
  n_max : mg "max" = none
  n_range : mg "range" = none
  n_str : mg "str" = none
  n_tuple : mg "tuple" = none
  x_BadText : ExcN K mg "BadText" c_BadText
  x_NoAnswer : ExcK K mg "NoAnswer" c_NoAnswer
  x_NotAllowed : ExcN K mg "NotAllowed" c_NotAllowed
  x_NotPossible : ExcN K mg "NotPossible" c_NotPossible
  x_TooMany : ExcN K mg "TooMany" c_TooMany
  s_NoAnswer : PySem.W.subIn K (.ref c_NoAnswer) (.ref c_NoAnswer) = some true
  k_NoAnswer_BadText : PySem.W.kitOne K (.ref c_NoAnswer) (.ref c_BadText) = some false
  k_NoAnswer_NotAllowed : PySem.W.kitOne K (.ref c_NoAnswer) (.ref c_NotAllowed) = some false
  k_NoAnswer_NotPossible : PySem.W.kitOne K (.ref c_NoAnswer) (.ref c_NotPossible) = some false
  k_NoAnswer_TooMany : PySem.W.kitOne K (.ref c_NoAnswer) (.ref c_TooMany) = some false
section
variable {P : Program} {w : World} {K : PySem.W.Frag} {mg : Str → Option Value} {base : Heap} {c_BadText c_NoAnswer c_NotAllowed c_NotPossible c_TooMany : Addr}
theorem d_0 (T : Txt K mg c_BadText c_NoAnswer c_NotAllowed c_NotPossible c_TooMany) {k : Nat} {r : Nat → F} (IH : ∀ i : Fin 12, Cal P w K mg base (nameOf i) k (r i)) {f : Addr} {fd : FuncData} (hm : mg "level_of" = some (.ref f)) (Fn : Fun K "level_of" "level_of" s_0 f fd) (hb : Binds K fd ["a"] []) :
    Cal P w K mg base "level_of" (k + 1) (runF 1 2 (b_0 r)) := cal_s hm Fn hb sc_0 rfl rfl fun cdv A outer s H E c =>
  (ss_cons (s_set 1 c.nd e_int)
  (ss_cons (s_while FUEL c.hp (t_tru (b_op o_shr (e_var 0) (e_var 1)))
  (ss_one (s_aug 1 c.nd e_int q_mul)))
  (ss_one (s_ret (e_var 1)))))
theorem d_1 (T : Txt K mg c_BadText c_NoAnswer c_NotAllowed c_NotPossible c_TooMany) {k : Nat} {r : Nat → F} (IH : ∀ i : Fin 12, Cal P w K mg base (nameOf i) k (r i)) {f : Addr} {fd : FuncData} (hm : mg "nim_product" = some (.ref f)) (Fn : Fun K "nim_product" "nim_product" s_1 f fd) (hb : Binds K fd ["a", "b"] []) :
    Cal P w K mg base "nim_product" (k + 1) (runF 2 11 (b_1 r)) := cal_s hm Fn hb sc_1 rfl rfl fun cdv A outer s H E c =>
  (ss_cons (s_if (t_bool (w_or (t_op o_lt (e_var 0) e_int (by rfl)) (w_or1 (t_op o_lt (e_var 1) e_int (by rfl)))))
  (ss_one (s_ret (b_op o_mul (e_var 0) (e_var 1))))
  ss_nil)
  (ss_cons (s_set 2 c.nd (b_op o_fdv (e_call (IH 0) c (a_cons (e_max2 c.calm T.n_max (a_cons (e_var 0) (a_cons (e_var 1) a_nil))) a_nil)) e_int))
  (ss_cons (s_set 3 c.nd (b_op o_sub (b_op o_shl e_int (e_var 2)) e_int))
  (ss_cons (s_par (i := 7) (j := 8) c.calm c.nd rfl rfl (by decide) rfl rfl (a_cons (b_op o_shr (e_var 0) (e_var 2)) (a_cons (b_op o_and (e_var 0) (e_var 3)) a_nil)) (by rfl))
  (ss_cons (s_par (i := 9) (j := 10) c.calm c.nd rfl rfl (by decide) rfl rfl (a_cons (b_op o_shr (e_var 1) (e_var 2)) (a_cons (b_op o_and (e_var 1) (e_var 3)) a_nil)) (by rfl))
  (ss_cons (s_set 4 c.nd (e_call (IH 1) c (a_cons (e_var 8) (a_cons (e_var 10) a_nil))))
  (ss_cons (s_set 5 c.nd (e_call (IH 1) c (a_cons (e_var 7) (a_cons (e_var 9) a_nil))))
  (ss_cons (s_set 6 c.nd (b_op o_xor (e_call (IH 1) c (a_cons (b_op o_xor (e_var 7) (e_var 8)) (a_cons (b_op o_xor (e_var 9) (e_var 10)) a_nil))) (e_var 4)))
  (ss_one (s_ret (b_op o_xor (b_op o_xor (b_op o_shl (e_var 6) (e_var 2)) (e_var 4)) (e_call (IH 1) c (a_cons (e_var 5) (a_cons (b_op o_shl e_int (b_op o_sub (e_var 2) e_int)) a_nil))))))))))))))
theorem d_2 (T : Txt K mg c_BadText c_NoAnswer c_NotAllowed c_NotPossible c_TooMany) {k : Nat} {r : Nat → F} (IH : ∀ i : Fin 12, Cal P w K mg base (nameOf i) k (r i)) {f : Addr} {fd : FuncData} (hm : mg "nim_power" = some (.ref f)) (Fn : Fun K "nim_power" "nim_power" s_2 f fd) (hb : Binds K fd ["a", "k"] []) :
    Cal P w K mg base "nim_power" (k + 1) (runF 2 3 (b_2 r)) := cal_s hm Fn hb sc_2 rfl rfl fun cdv A outer s H E c =>
  (ss_cons (s_set 2 c.nd e_int)
  (ss_cons (s_while FUEL c.hp (t_tru (e_var 1))
  (ss_cons (s_if (t_tru (b_op o_mod (e_var 1) e_int))
  (ss_one (s_set 2 c.nd (e_call (IH 1) c (a_cons (e_var 2) (a_cons (e_var 0) a_nil)))))
  ss_nil)
  (ss_cons (s_set 0 c.nd (e_call (IH 1) c (a_cons (e_var 0) (a_cons (e_var 0) a_nil))))
  (ss_one (s_aug 1 c.nd e_int q_fdv)))))
  (ss_one (s_ret (e_var 2)))))
theorem d_3 (T : Txt K mg c_BadText c_NoAnswer c_NotAllowed c_NotPossible c_TooMany) {k : Nat} {r : Nat → F} (IH : ∀ i : Fin 12, Cal P w K mg base (nameOf i) k (r i)) {f : Addr} {fd : FuncData} (hm : mg "nim_inverse" = some (.ref f)) (Fn : Fun K "nim_inverse" "nim_inverse" s_3 f fd) (hb : Binds K fd ["a"] []) :
    Cal P w K mg base "nim_inverse" (k + 1) (runF 1 1 (b_3 r)) := cal_s hm Fn hb sc_3 rfl rfl fun cdv A outer s H E c =>
  (ss_cons (s_if (t_op (o_eq c.hu') (e_var 0) e_int (by rfl))
  (ss_one (s_raise T.x_NoAnswer c.calm c.tk))
  ss_nil)
  (ss_one (s_ret (e_if (t_op o_gt (e_var 0) e_int (by rfl)) (e_call (IH 2) c (a_cons (e_var 0) (a_cons (b_op o_sub (b_op o_shl e_int (e_call (IH 0) c (a_cons (e_var 0) a_nil))) e_int) a_nil))) e_int))))
theorem d_4 (T : Txt K mg c_BadText c_NoAnswer c_NotAllowed c_NotPossible c_TooMany) {k : Nat} {r : Nat → F} (IH : ∀ i : Fin 12, Cal P w K mg base (nameOf i) k (r i)) {f : Addr} {fd : FuncData} (hm : mg "nim_root" = some (.ref f)) (Fn : Fun K "nim_root" "nim_root" s_4 f fd) (hb : Binds K fd ["a"] []) :
    Cal P w K mg base "nim_root" (k + 1) (runF 1 2 (b_4 r)) := cal_s hm Fn hb sc_4 rfl rfl fun cdv A outer s H E c =>
  (ss_cons (s_for c.hp c.calm (i_range1 (by rfl) T.n_range (b_op o_sub (e_call (IH 0) c (a_cons (e_var 0) a_nil)) e_int)) (g_pure (w_nm 1 c.nd))
  (ss_one (s_set 0 c.nd (e_call (IH 1) c (a_cons (e_var 0) (a_cons (e_var 0) a_nil))))))
  (ss_one (s_ret (e_var 0))))
theorem d_5 (T : Txt K mg c_BadText c_NoAnswer c_NotAllowed c_NotPossible c_TooMany) {k : Nat} {r : Nat → F} (IH : ∀ i : Fin 12, Cal P w K mg base (nameOf i) k (r i)) {f : Addr} {fd : FuncData} (hm : mg "_law_box" = some (.ref f)) (Fn : Fun K "_law_box" "_law_box" s_5 f fd) (hb : Binds K fd ["script"] []) :
    Cal P w K mg base "_law_box" (k + 1) (runF 1 1 (b_5 r)) := cal_s hm Fn hb sc_5 rfl rfl fun cdv A outer s H E c =>
  (ss_one (s_ret (e_ref (l_lst (a_cons (e_ref (l_list T.n_list (q_val (e_sl (e_var 0) p_none (p_some e_int))))) (a_cons e_int (a_cons (b_op o_add e_int (e_len T.n_len (a_cons (e_var 0) a_nil))) a_nil)))))))
theorem d_6 (T : Txt K mg c_BadText c_NoAnswer c_NotAllowed c_NotPossible c_TooMany) {k : Nat} {r : Nat → F} (IH : ∀ i : Fin 12, Cal P w K mg base (nameOf i) k (r i)) {f : Addr} {fd : FuncData} (hm : mg "_law_load" = some (.ref f)) (Fn : Fun K "_law_load" "_law_load" s_6 f fd) (hb : Binds K fd ["box"] []) :
    Cal P w K mg base "_law_load" (k + 1) (runF 1 6 (b_6 r)) := cal_s hm Fn hb sc_6 rfl rfl fun cdv A outer s H E c =>
  (ss_cons (s_set 1 c.nd (e_ix c.hu (e_var 0) e_int))
  (ss_cons (s_if (t_op o_gt (e_len T.n_len (a_cons (e_var 1) a_nil)) e_int (by rfl))
  (ss_cons (s_set 4 c.nd (e_int' T.n_int (a_cons (e_popAt (e_var 1) (a_cons e_int a_nil)) a_nil)))
  (ss_cons (s_set 5 c.nd (e_if (t_op o_ge (e_var 4) e_int (by rfl)) (b_op o_mul e_int (e_var 4)) (b_op o_sub (b_op o_mul (e_un un_neg f_neg e_int) (e_var 4)) e_int)))
  (ss_cons (s_if (t_op o_ge (e_var 5) e_int (by rfl))
  (ss_one (s_ret (e_var 5)))
  ss_nil)
  (ss_one (s_asg (b_op o_mod (e_int' T.n_int (a_cons (b_op o_add (b_op o_add (b_op o_mul (e_ix c.hu (e_var 0) e_int) e_int) (b_op o_mul (e_var 5) e_int)) e_int) a_nil)) e_int) (g_sub c.hu (e_var 0) e_int))))))
  ss_nil)
  (ss_cons (s_set 2 c.nd (b_op o_mod (e_int' T.n_int (a_cons (b_op o_add (b_op o_mul (e_ix c.hu (e_var 0) e_int) e_int) e_int) a_nil)) e_int))
  (ss_cons (s_set 3 c.nd (b_op o_mod (e_int' T.n_int (a_cons (b_op o_add (b_op o_mul (e_var 2) e_int) e_int) a_nil)) e_int))
  (ss_cons (s_asg (b_op o_mod (e_int' T.n_int (a_cons (b_op o_add (b_op o_mul (e_var 3) e_int) e_int) a_nil)) e_int) (g_sub c.hu (e_var 0) e_int))
  (ss_one (s_ret (b_op o_add (b_op o_add (b_op o_mul (e_var 2) e_int) (b_op o_mul (e_var 3) e_int)) (e_ix c.hu (e_var 0) e_int)))))))))
theorem d_7 (T : Txt K mg c_BadText c_NoAnswer c_NotAllowed c_NotPossible c_TooMany) {k : Nat} {r : Nat → F} (IH : ∀ i : Fin 12, Cal P w K mg base (nameOf i) k (r i)) {f : Addr} {fd : FuncData} (hm : mg "_law_draw" = some (.ref f)) (Fn : Fun K "_law_draw" "_law_draw" s_7 f fd) (hb : Binds K fd ["box", "many"] []) :
    Cal P w K mg base "_law_draw" (k + 1) (runF 2 3 (b_7 r)) := cal_s hm Fn hb sc_7 rfl rfl fun cdv A outer s H E c =>
  (ss_cons (s_if (t_op o_lt (e_ix c.hu (e_var 0) e_int) (e_var 1) (by rfl))
  (ss_one (s_asg (e_call (IH 6) c (a_cons (e_var 0) a_nil)) (g_sub c.hu (e_var 0) e_int)))
  ss_nil)
  (ss_cons (s_set 2 c.nd (b_op o_mod (e_int' T.n_int (a_cons (e_ix c.hu (e_var 0) e_int) a_nil)) (e_var 1)))
  (ss_cons (s_asg (b_op o_fdv (e_ix c.hu (e_var 0) e_int) (e_var 1)) (g_sub c.hu (e_var 0) e_int))
  (ss_one (s_ret (e_var 2))))))
theorem d_8 (T : Txt K mg c_BadText c_NoAnswer c_NotAllowed c_NotPossible c_TooMany) {k : Nat} {r : Nat → F} (IH : ∀ i : Fin 12, Cal P w K mg base (nameOf i) k (r i)) {f : Addr} {fd : FuncData} (hm : mg "_law_same" = some (.ref f)) (Fn : Fun K "_law_same" "_law_same" s_8 f fd) (hb : Binds K fd ["a", "b"] []) :
    Cal P w K mg base "_law_same" (k + 1) (runF 2 3 (b_8 r)) := cal_s hm Fn hb sc_8 rfl rfl fun cdv A outer s H E c =>
  (ss_cons (s_if (t_bool (w_or (t_bool (w_and (t_tru (e_isi1 T.n_isinstance T.n_tuple (by decide +kernel) (by decide) (e_var 0))) (w_and1 (t_tru (e_isi1 T.n_isinstance T.n_tuple (by decide +kernel) (by decide) (e_var 1)))))) (w_or1 (t_bool (w_and (t_tru (e_isi1 T.n_isinstance T.n_list (by decide +kernel) (by decide) (e_var 0))) (w_and1 (t_tru (e_isi1 T.n_isinstance T.n_list (by decide +kernel) (by decide) (e_var 1)))))))))
  (ss_one (s_ret (e_and (c_op (o_eq c.hu') (e_len T.n_len (a_cons (e_var 0) a_nil)) (e_len T.n_len (a_cons (e_var 1) a_nil)) (by rfl)) (e_one (e_all c.calm T.n_all (ql_tmp (l_lc (own := [("k", 2)]) c.calm c.nd (i_range1 (by rfl) T.n_range (e_len T.n_len (a_cons (e_var 0) a_nil))) (blkOk_by (N := ["a", "b", "k"]) (sc := defScope s_8) (by decide +kernel)) (fun s1 H1 C1 cl1 fp1 => (w_nm 2 (c.blk s1 H1 _ _ fp1).nd)) (fun s1 H1 C1 cl1 fp1 => ts_nil) (fun s1 H1 C1 cl1 fp1 => (e_call (IH 8) (c.blk s1 H1 _ _ fp1) (a_cons (e_ix (c.blk s1 H1 _ _ fp1).hu (e_var 0) (e_var 2)) (a_cons (e_ix (c.blk s1 H1 _ _ fp1).hu (e_var 1) (e_var 2)) a_nil)))) (by decide))))))))
  ss_nil)
  (ss_cons (s_if (t_bool (w_or (t_tru (e_isi1 T.n_isinstance T.n_bool (by decide +kernel) (by decide) (e_var 0))) (w_or1 (t_tru (e_isi1 T.n_isinstance T.n_bool (by decide +kernel) (by decide) (e_var 1))))))
  (ss_one (s_ret (e_and (e_isi1 T.n_isinstance T.n_bool (by decide +kernel) (by decide) (e_var 0)) (e_and (e_isi1 T.n_isinstance T.n_bool (by decide +kernel) (by decide) (e_var 1)) (e_one (c_op (o_eq c.hu') (e_var 0) (e_var 1) (by rfl)))))))
  ss_nil)
  (ss_cons (s_if (t_bool (w_or (t_bool (w_and (t_tru (e_isi1 T.n_isinstance T.n_int (by decide +kernel) (by decide) (e_var 0))) (w_and1 (t_tru (e_isi1 T.n_isinstance T.n_int (by decide +kernel) (by decide) (e_var 1)))))) (w_or1 (t_bool (w_and (t_tru (e_isi1 T.n_isinstance T.n_str (by decide +kernel) (by decide) (e_var 0))) (w_and1 (t_tru (e_isi1 T.n_isinstance T.n_str (by decide +kernel) (by decide) (e_var 1)))))))))
  (ss_one (s_ret (c_op (o_eq c.hu') (e_var 0) (e_var 1) (by rfl))))
  ss_nil)
  (ss_one (s_ret (e_and (c_op o_is (e_var 0) e_non (by rfl)) (e_one (c_op o_is (e_var 1) e_non (by rfl)))))))))
theorem d_9 (T : Txt K mg c_BadText c_NoAnswer c_NotAllowed c_NotPossible c_TooMany) {k : Nat} {r : Nat → F} (IH : ∀ i : Fin 12, Cal P w K mg base (nameOf i) k (r i)) {f : Addr} {fd : FuncData} (hm : mg "_law_product" = some (.ref f)) (Fn : Fun K "_law_product" "_law_product" s_9 f fd) (hb : Binds K fd ["a", "b", "met"] []) :
    Cal P w K mg base "_law_product" (k + 1) (runF 3 7 (b_9 r)) := cal_s hm Fn hb sc_9 rfl rfl fun cdv A outer s H E c =>
  (ss_cons (s_if (t_op (o_notIn c.hu) (e_tup (a_cons (e_var 0) (a_cons (e_var 1) a_nil))) (e_var 2) (by rfl))
  (ss_cons (s_set 3 c.nd (e_dct false))
  (ss_cons (s_for c.hp c.calm (i_range1 (by rfl) T.n_range (e_var 0)) (g_pure (w_nm 4 c.nd))
  (ss_one (s_for c.hp c.calm (i_range1 (by rfl) T.n_range (e_var 1)) (g_pure (w_nm 6 c.nd))
  (ss_one (s_asg e_bl (g_sub c.hu (e_var 3) (b_op o_xor (b_op o_xor (e_call (IH 9) c (a_cons (e_var 4) (a_cons (e_var 1) (a_cons (e_var 2) a_nil)))) (e_call (IH 9) c (a_cons (e_var 0) (a_cons (e_var 6) (a_cons (e_var 2) a_nil))))) (e_call (IH 9) c (a_cons (e_var 4) (a_cons (e_var 6) (a_cons (e_var 2) a_nil)))))))))))
  (ss_cons (s_set 5 c.nd e_int)
  (ss_cons (s_while FUEL c.hp (t_op (o_in c.hu) (e_var 5) (e_var 3) (by rfl))
  (ss_one (s_set 5 c.nd (b_op o_add (e_var 5) e_int))))
  (ss_one (s_asg (e_var 5) (g_sub c.hu (e_var 2) (e_tup (a_cons (e_var 0) (a_cons (e_var 1) a_nil))))))))))
  ss_nil)
  (ss_one (s_ret (e_ix c.hu (e_var 2) (e_tup (a_cons (e_var 0) (a_cons (e_var 1) a_nil)))))))
theorem d_10 (T : Txt K mg c_BadText c_NoAnswer c_NotAllowed c_NotPossible c_TooMany) {k : Nat} {r : Nat → F} (IH : ∀ i : Fin 12, Cal P w K mg base (nameOf i) k (r i)) {f : Addr} {fd : FuncData} (hm : mg "_law_refused" = some (.ref f)) (Fn : Fun K "_law_refused" "_law_refused" s_10 f fd) (hb : Binds K fd [] []) :
    Cal P w K mg base "_law_refused" (k + 1) (runF 0 1 (b_10 r)) := cal_s hm Fn hb sc_10 rfl rfl fun cdv A outer s H E c =>
  (ss_cons (s_tryAs (i := 0) (su := (fun y => if y = "NoAnswer" then mRet (mC (.bl true)) else fun _ _ => none)) rfl rfl c.nd rfl rfl ⟨rfl, by decide, .inl T.x_NoAnswer.gC⟩ (hit_self T.x_NoAnswer.toExcN T.s_NoAnswer) c.tk (fun W' pn' xe' tk' hp' => (ss_one (s_expr (e_call (IH 3) (C.tr c tk' hp') (a_cons e_int a_nil)))))
  (fun a' oe' cls' pn' y' hy' hz' hd' => by
    refine su_is (x := "NoAnswer") (A := fun σ H => σ[0]? = some (some (.ref a'))) (mt := mRet (mC (.bl true))) T.x_NoAnswer.gC hy' fun e' => ?_
    subst e'
    exact pss_one (s_retNotIs (i := 0) T.x_NoAnswer.ic hz' hd' T.n_isinstance (oc_cons T.x_BadText.gC (oc_cons T.x_NotAllowed.gC (oc_cons T.x_NotPossible.gC (oc_cons T.x_TooMany.gC oc_nil)))) (Nat.le_of_ble_eq_true rfl) (.cons (.own _) (.cons (.own _) (.cons (.own _) (.cons (.own _) .nil)))) (kitAny_cons T.k_NoAnswer_BadText (fun _ => (kitAny_cons T.k_NoAnswer_NotAllowed (fun _ => (kitAny_cons T.k_NoAnswer_NotPossible (fun _ => (kitAny_cons T.k_NoAnswer_TooMany (fun _ => kitAny_nil) (fun h => by cases h))) (fun h => by cases h))) (fun h => by cases h))) (fun h => by cases h)) (b := false))))
  (ss_one (s_ret e_bl)))
theorem l_11 (T : Txt K mg c_BadText c_NoAnswer c_NotAllowed c_NotPossible c_TooMany) {k : Nat} {r : Nat → F} (IH : ∀ i : Fin 12, Cal P w K mg base (nameOf i) k (r i)) {f : Addr} {fd : FuncData} (Fn : Fun K "law" "law" s_11 f fd) :
    FnOk P w K mg base (L2.CX P w) (k + 1) f fd ["script"] (spOf ⟨P, w, K, mg⟩ (runF 1 17 (b_11 r))) := fn_s Fn sc_11 rfl rfl fun cdv A outer s H E c =>
  (ss_cons (s_set 1 c.nd (e_call (IH 5) c (a_cons (e_var 0) a_nil)))
  (ss_cons (s_set 2 c.nd (e_dct true))
  (ss_cons (s_for c.hp c.calm (i_range1 (by rfl) T.n_range e_int) (g_pure (w_nm 3 c.nd))
  (ss_cons (s_par (i := 7) (j := 13) c.calm c.nd rfl rfl (by decide) rfl rfl (a_cons (e_call (IH 7) c (a_cons (e_var 1) (a_cons e_int a_nil))) (a_cons (e_call (IH 7) c (a_cons (e_var 1) (a_cons e_int a_nil))) a_nil)) (by rfl))
  (ss_one (s_if (t_not (t_tru (e_call (IH 8) c (a_cons (e_call (IH 1) c (a_cons (e_var 7) (a_cons (e_var 13) a_nil))) (a_cons (e_call (IH 9) c (a_cons (e_var 7) (a_cons (e_var 13) (a_cons (e_var 2) a_nil)))) a_nil)))))
  (ss_one (s_ret e_bl))
  ss_nil))))
  (ss_cons (s_for c.hp c.calm (i_val (e_tup (a_cons e_int (a_cons e_int (a_cons e_int (a_cons (e_ixL (l_lst (a_cons e_int (a_cons e_int a_nil))) (e_call (IH 7) c (a_cons (e_var 1) (a_cons e_int a_nil)))) a_nil)))))) (g_pure (w_nm 4 c.nd))
  (ss_cons (s_set 8 c.nd (b_op o_shl e_int (e_var 4)))
  (ss_cons (s_par3 (i := 7) (j := 13) (k := 14) c.calm c.nd rfl rfl rfl (by decide) (by decide) (by decide) rfl rfl rfl (a_cons (e_call (IH 7) c (a_cons (e_var 1) (a_cons (e_var 8) a_nil))) (a_cons (e_call (IH 7) c (a_cons (e_var 1) (a_cons (e_var 8) a_nil))) (a_cons (e_call (IH 7) c (a_cons (e_var 1) (a_cons (e_var 8) a_nil))) a_nil))) (by rfl))
  (ss_cons (s_set 9 c.nd (e_call (IH 1) c (a_cons (e_var 7) (a_cons (e_var 13) a_nil))))
  (ss_cons (s_if (t_bool (w_or (t_not (t_tru (e_call (IH 8) c (a_cons (e_call (IH 1) c (a_cons (e_var 13) (a_cons (e_var 7) a_nil))) (a_cons (e_var 9) a_nil))))) (w_or (t_not (tc_chain o_le o_lt e_int (e_var 9) (e_var 8))) (w_or1 (t_not (t_tru (e_call (IH 8) c (a_cons (e_tup (a_cons (e_call (IH 1) c (a_cons (e_var 7) (a_cons e_int a_nil))) (a_cons (e_call (IH 1) c (a_cons e_int (a_cons (e_var 13) a_nil))) a_nil))) (a_cons (e_tup (a_cons (e_var 7) (a_cons e_int a_nil))) a_nil)))))))))
  (ss_one (s_ret e_bl))
  ss_nil)
  (ss_cons (s_if (t_bool (w_or (t_op (o_ne c.hu') (e_call (IH 1) c (a_cons (e_var 9) (a_cons (e_var 14) a_nil))) (e_call (IH 1) c (a_cons (e_var 7) (a_cons (e_call (IH 1) c (a_cons (e_var 13) (a_cons (e_var 14) a_nil))) a_nil))) (by rfl)) (w_or1 (t_op (o_ne c.hu') (e_call (IH 1) c (a_cons (e_var 7) (a_cons (b_op o_xor (e_var 13) (e_var 14)) a_nil))) (b_op o_xor (e_var 9) (e_call (IH 1) c (a_cons (e_var 7) (a_cons (e_var 14) a_nil)))) (by rfl)))))
  (ss_one (s_ret e_bl))
  ss_nil)
  (ss_cons (s_set 10 c.nd (e_call (IH 4) c (a_cons (e_var 7) a_nil)))
  (ss_cons (s_if (t_bool (w_or (t_not (t_tru (e_isi1 T.n_isinstance T.n_int (by decide +kernel) (by decide) (e_var 10)))) (w_or (t_not (tc_chain o_le o_lt e_int (e_var 10) (e_var 8))) (w_or (t_op (o_ne c.hu') (e_call (IH 1) c (a_cons (e_var 10) (a_cons (e_var 10) a_nil))) (e_var 7) (by rfl)) (w_or1 (t_not (t_tru (e_call (IH 8) c (a_cons (e_call (IH 4) c (a_cons (e_call (IH 1) c (a_cons (e_var 13) (a_cons (e_var 13) a_nil))) a_nil)) (a_cons (e_var 13) a_nil))))))))))
  (ss_one (s_ret e_bl))
  ss_nil)
  (ss_one (s_if (t_bool (w_and (t_op o_lt (e_var 4) e_int (by rfl)) (w_and1 (t_op o_gt (e_var 7) e_int (by rfl)))))
  (ss_cons (s_set 15 c.nd (e_call (IH 3) c (a_cons (e_var 7) a_nil)))
  (ss_one (s_if (t_bool (w_or (t_not (t_tru (e_isi1 T.n_isinstance T.n_int (by decide +kernel) (by decide) (e_var 15)))) (w_or (t_not (tc_chain o_lt o_lt e_int (e_var 15) (e_var 8))) (w_or1 (t_op (o_ne c.hu') (e_call (IH 1) c (a_cons (e_var 7) (a_cons (e_var 15) a_nil))) e_int (by rfl))))))
  (ss_one (s_ret e_bl))
  ss_nil)))
  ss_nil))))))))))
  (ss_cons (s_setLc 5 (own := [("k", 16)]) c.calm c.nd (i_range1 (by rfl) T.n_range e_int) (blkOk_by (N := ["script", "box", "met", "turn", "bits", "powers", "high", "a", "top", "ab", "root", "i", "j", "b", "c", "inverse_there", "k"]) (sc := defScope s_11) (by decide +kernel)) (fun s1 H1 C1 cl1 fp1 => (w_nm 16 (c.blk s1 H1 _ _ fp1).nd)) (fun s1 H1 C1 cl1 fp1 => ts_nil) (fun s1 H1 C1 cl1 fp1 => (b_op o_shl e_int (b_op o_shl e_int (e_var 16)))) (by decide) (sw_true rfl rfl (by decide) (by decide)))
  (ss_cons (s_par (i := 11) (j := 12) c.calm c.nd rfl rfl (by decide) rfl rfl (a_cons (e_call (IH 7) c (a_cons (e_var 1) (a_cons e_int a_nil))) (a_cons (e_call (IH 7) c (a_cons (e_var 1) (a_cons e_int a_nil))) a_nil)) (by rfl))
  (ss_cons (s_set 6 c.nd (e_ix c.hu (e_var 5) (e_var 11)))
  (ss_cons (s_if (t_not (t_tru (e_call (IH 8) c (a_cons (e_call (IH 1) c (a_cons (e_var 6) (a_cons (e_var 6) a_nil))) (a_cons (b_op o_add (e_var 6) (b_op o_fdv (e_var 6) e_int)) a_nil)))))
  (ss_one (s_ret e_bl))
  ss_nil)
  (ss_cons (s_if (t_bool (w_and (t_op (o_ne c.hu') (e_var 11) (e_var 12) (by rfl)) (w_and1 (t_not (t_tru (e_call (IH 8) c (a_cons (e_call (IH 1) c (a_cons (e_var 6) (a_cons (e_ix c.hu (e_var 5) (e_var 12)) a_nil))) (a_cons (b_op o_mul (e_var 6) (e_ix c.hu (e_var 5) (e_var 12))) a_nil))))))))
  (ss_one (s_ret e_bl))
  ss_nil)
  (ss_cons (s_set 7 c.nd (e_call (IH 7) c (a_cons (e_var 1) (a_cons (e_var 6) a_nil))))
  (ss_one (s_ret (e_and (e_call (IH 8) c (a_cons (e_call (IH 1) c (a_cons (e_var 6) (a_cons (e_var 7) a_nil))) (a_cons (b_op o_mul (e_var 6) (e_var 7)) a_nil))) (e_and (e_call0 (IH 10) c) (e_one (e_call (IH 8) c (a_cons (e_tup (a_cons (e_call (IH 3) c (a_cons e_int a_nil)) (a_cons (e_call (IH 3) c (a_cons e_int a_nil)) (a_cons (e_call (IH 3) c (a_cons e_int a_nil)) a_nil)))) (a_cons (e_tup (a_cons e_int (a_cons e_int (a_cons e_int a_nil)))) a_nil))))))))))))))))))
structure Fns (K : PySem.W.Frag) (mg : Str → Option Value) : Prop where
  f_0 : ∃ f fd, mg "level_of" = some (.ref f) ∧ Fun K "level_of" "level_of" s_0 f fd ∧ Binds K fd ["a"] []
  f_1 : ∃ f fd, mg "nim_product" = some (.ref f) ∧ Fun K "nim_product" "nim_product" s_1 f fd ∧ Binds K fd ["a", "b"] []
  f_2 : ∃ f fd, mg "nim_power" = some (.ref f) ∧ Fun K "nim_power" "nim_power" s_2 f fd ∧ Binds K fd ["a", "k"] []
  f_3 : ∃ f fd, mg "nim_inverse" = some (.ref f) ∧ Fun K "nim_inverse" "nim_inverse" s_3 f fd ∧ Binds K fd ["a"] []
  f_4 : ∃ f fd, mg "nim_root" = some (.ref f) ∧ Fun K "nim_root" "nim_root" s_4 f fd ∧ Binds K fd ["a"] []
  f_5 : ∃ f fd, mg "_law_box" = some (.ref f) ∧ Fun K "_law_box" "_law_box" s_5 f fd ∧ Binds K fd ["script"] []
  f_6 : ∃ f fd, mg "_law_load" = some (.ref f) ∧ Fun K "_law_load" "_law_load" s_6 f fd ∧ Binds K fd ["box"] []
  f_7 : ∃ f fd, mg "_law_draw" = some (.ref f) ∧ Fun K "_law_draw" "_law_draw" s_7 f fd ∧ Binds K fd ["box", "many"] []
  f_8 : ∃ f fd, mg "_law_same" = some (.ref f) ∧ Fun K "_law_same" "_law_same" s_8 f fd ∧ Binds K fd ["a", "b"] []
  f_9 : ∃ f fd, mg "_law_product" = some (.ref f) ∧ Fun K "_law_product" "_law_product" s_9 f fd ∧ Binds K fd ["a", "b", "met"] []
  f_10 : ∃ f fd, mg "_law_refused" = some (.ref f) ∧ Fun K "_law_refused" "_law_refused" s_10 f fd ∧ Binds K fd [] []
  f_11 : ∃ f fd, mg "law" = some (.ref f) ∧ Fun K "law" "law" s_11 f fd ∧ Binds K fd ["script"] []
theorem all_defs (T : Txt K mg c_BadText c_NoAnswer c_NotAllowed c_NotPossible c_TooMany) (D : Fns K mg) : ∀ k (i : Fin 12), Cal P w K mg base (nameOf i) k (sem k i)
  | 0, ⟨0, _⟩ => let ⟨_, _, h1, h2, h3⟩ := D.f_0; cal_0 h1 h2 h3
  | 0, ⟨1, _⟩ => let ⟨_, _, h1, h2, h3⟩ := D.f_1; cal_0 h1 h2 h3
  | 0, ⟨2, _⟩ => let ⟨_, _, h1, h2, h3⟩ := D.f_2; cal_0 h1 h2 h3
  | 0, ⟨3, _⟩ => let ⟨_, _, h1, h2, h3⟩ := D.f_3; cal_0 h1 h2 h3
  | 0, ⟨4, _⟩ => let ⟨_, _, h1, h2, h3⟩ := D.f_4; cal_0 h1 h2 h3
  | 0, ⟨5, _⟩ => let ⟨_, _, h1, h2, h3⟩ := D.f_5; cal_0 h1 h2 h3
  | 0, ⟨6, _⟩ => let ⟨_, _, h1, h2, h3⟩ := D.f_6; cal_0 h1 h2 h3
  | 0, ⟨7, _⟩ => let ⟨_, _, h1, h2, h3⟩ := D.f_7; cal_0 h1 h2 h3
  | 0, ⟨8, _⟩ => let ⟨_, _, h1, h2, h3⟩ := D.f_8; cal_0 h1 h2 h3
  | 0, ⟨9, _⟩ => let ⟨_, _, h1, h2, h3⟩ := D.f_9; cal_0 h1 h2 h3
  | 0, ⟨10, _⟩ => let ⟨_, _, h1, h2, h3⟩ := D.f_10; cal_0 h1 h2 h3
  | 0, ⟨11, _⟩ => let ⟨_, _, h1, h2, h3⟩ := D.f_11; cal_0 h1 h2 h3
  | k + 1, ⟨0, _⟩ => let ⟨_, _, h1, h2, h3⟩ := D.f_0; d_0 T (all_defs T D k) h1 h2 h3
  | k + 1, ⟨1, _⟩ => let ⟨_, _, h1, h2, h3⟩ := D.f_1; d_1 T (all_defs T D k) h1 h2 h3
  | k + 1, ⟨2, _⟩ => let ⟨_, _, h1, h2, h3⟩ := D.f_2; d_2 T (all_defs T D k) h1 h2 h3
  | k + 1, ⟨3, _⟩ => let ⟨_, _, h1, h2, h3⟩ := D.f_3; d_3 T (all_defs T D k) h1 h2 h3
  | k + 1, ⟨4, _⟩ => let ⟨_, _, h1, h2, h3⟩ := D.f_4; d_4 T (all_defs T D k) h1 h2 h3
  | k + 1, ⟨5, _⟩ => let ⟨_, _, h1, h2, h3⟩ := D.f_5; d_5 T (all_defs T D k) h1 h2 h3
  | k + 1, ⟨6, _⟩ => let ⟨_, _, h1, h2, h3⟩ := D.f_6; d_6 T (all_defs T D k) h1 h2 h3
  | k + 1, ⟨7, _⟩ => let ⟨_, _, h1, h2, h3⟩ := D.f_7; d_7 T (all_defs T D k) h1 h2 h3
  | k + 1, ⟨8, _⟩ => let ⟨_, _, h1, h2, h3⟩ := D.f_8; d_8 T (all_defs T D k) h1 h2 h3
  | k + 1, ⟨9, _⟩ => let ⟨_, _, h1, h2, h3⟩ := D.f_9; d_9 T (all_defs T D k) h1 h2 h3
  | k + 1, ⟨10, _⟩ => let ⟨_, _, h1, h2, h3⟩ := D.f_10; d_10 T (all_defs T D k) h1 h2 h3
  | k + 1, ⟨11, _⟩ => let ⟨f, fd, h1, h2, h3⟩ := D.f_11; ⟨f, fd, _, l_11 T (all_defs T D k) h2, h1, h2.kp, h3⟩
end
/-! the end -/
theorem all_mk {l : PySem.W.OpenLaw} {w : World} {K : PySem.W.Frag} {h : Heap} {mg : Str → Option Value} {fa : Addr} (KX : K.In h) (G : h.Ns mainGlobals mg) (hfa : mg "law" = some (.ref fa))
    {f0 : Addr} {od0 an0 : Option Addr} {sl0 : Array (Option Value)} {oc0 kV0 dc0 pm0 cd0 ct0 : Value}
    {f1 : Addr} {od1 an1 : Option Addr} {sl1 : Array (Option Value)} {oc1 kV1 dc1 pm1 cd1 ct1 : Value}
    {f2 : Addr} {od2 an2 : Option Addr} {sl2 : Array (Option Value)} {oc2 kV2 dc2 pm2 cd2 ct2 : Value}
    {f3 : Addr} {od3 an3 : Option Addr} {sl3 : Array (Option Value)} {oc3 kV3 dc3 pm3 cd3 ct3 : Value}
    {f4 : Addr} {od4 an4 : Option Addr} {sl4 : Array (Option Value)} {oc4 kV4 dc4 pm4 cd4 ct4 : Value}
    {f5 : Addr} {od5 an5 : Option Addr} {sl5 : Array (Option Value)} {oc5 kV5 dc5 pm5 cd5 ct5 : Value}
    {f6 : Addr} {od6 an6 : Option Addr} {sl6 : Array (Option Value)} {oc6 kV6 dc6 pm6 cd6 ct6 : Value}
    {f7 : Addr} {od7 an7 : Option Addr} {sl7 : Array (Option Value)} {oc7 kV7 dc7 pm7 cd7 ct7 : Value}
    {f8 : Addr} {od8 an8 : Option Addr} {sl8 : Array (Option Value)} {oc8 kV8 dc8 pm8 cd8 ct8 : Value}
    {f9 : Addr} {od9 an9 : Option Addr} {sl9 : Array (Option Value)} {oc9 kV9 dc9 pm9 cd9 ct9 : Value}
    {f10 : Addr} {od10 an10 : Option Addr} {sl10 : Array (Option Value)} {oc10 kV10 dc10 pm10 cd10 ct10 : Value}
    {f11 : Addr} {od11 an11 : Option Addr} {sl11 : Array (Option Value)} {oc11 kV11 dc11 pm11 cd11 ct11 : Value}
    {c_BadText c_NoAnswer c_NotAllowed c_NotPossible c_TooMany : Addr}
    (a0 : PySem.W.nsIn K mainGlobals "level_of" = some (some (.ref f0)))
    (l0 : K.lookup f0 = some ⟨oc0, od0, .func (PySem.W.fnOf "level_of" "level_of" (defArgs s_0) (defBody s_0) (defScope s_0) .none kV0 dc0 pm0 an0 cd0 ct0), sl0⟩)
    (d0 : PySem.W.codeIn K cd0 "level_of" = true)
    (k0 : PySem.W.keepIn K (.ref f0) = true)
    (a1 : PySem.W.nsIn K mainGlobals "nim_product" = some (some (.ref f1)))
    (l1 : K.lookup f1 = some ⟨oc1, od1, .func (PySem.W.fnOf "nim_product" "nim_product" (defArgs s_1) (defBody s_1) (defScope s_1) .none kV1 dc1 pm1 an1 cd1 ct1), sl1⟩)
    (d1 : PySem.W.codeIn K cd1 "nim_product" = true)
    (k1 : PySem.W.keepIn K (.ref f1) = true)
    (a2 : PySem.W.nsIn K mainGlobals "nim_power" = some (some (.ref f2)))
    (l2 : K.lookup f2 = some ⟨oc2, od2, .func (PySem.W.fnOf "nim_power" "nim_power" (defArgs s_2) (defBody s_2) (defScope s_2) .none kV2 dc2 pm2 an2 cd2 ct2), sl2⟩)
    (d2 : PySem.W.codeIn K cd2 "nim_power" = true)
    (k2 : PySem.W.keepIn K (.ref f2) = true)
    (a3 : PySem.W.nsIn K mainGlobals "nim_inverse" = some (some (.ref f3)))
    (l3 : K.lookup f3 = some ⟨oc3, od3, .func (PySem.W.fnOf "nim_inverse" "nim_inverse" (defArgs s_3) (defBody s_3) (defScope s_3) .none kV3 dc3 pm3 an3 cd3 ct3), sl3⟩)
    (d3 : PySem.W.codeIn K cd3 "nim_inverse" = true)
    (k3 : PySem.W.keepIn K (.ref f3) = true)
    (a4 : PySem.W.nsIn K mainGlobals "nim_root" = some (some (.ref f4)))
    (l4 : K.lookup f4 = some ⟨oc4, od4, .func (PySem.W.fnOf "nim_root" "nim_root" (defArgs s_4) (defBody s_4) (defScope s_4) .none kV4 dc4 pm4 an4 cd4 ct4), sl4⟩)
    (d4 : PySem.W.codeIn K cd4 "nim_root" = true)
    (k4 : PySem.W.keepIn K (.ref f4) = true)
    (a5 : PySem.W.nsIn K mainGlobals "_law_box" = some (some (.ref f5)))
    (l5 : K.lookup f5 = some ⟨oc5, od5, .func (PySem.W.fnOf "_law_box" "_law_box" (defArgs s_5) (defBody s_5) (defScope s_5) .none kV5 dc5 pm5 an5 cd5 ct5), sl5⟩)
    (d5 : PySem.W.codeIn K cd5 "_law_box" = true)
    (k5 : PySem.W.keepIn K (.ref f5) = true)
    (a6 : PySem.W.nsIn K mainGlobals "_law_load" = some (some (.ref f6)))
    (l6 : K.lookup f6 = some ⟨oc6, od6, .func (PySem.W.fnOf "_law_load" "_law_load" (defArgs s_6) (defBody s_6) (defScope s_6) .none kV6 dc6 pm6 an6 cd6 ct6), sl6⟩)
    (d6 : PySem.W.codeIn K cd6 "_law_load" = true)
    (k6 : PySem.W.keepIn K (.ref f6) = true)
    (a7 : PySem.W.nsIn K mainGlobals "_law_draw" = some (some (.ref f7)))
    (l7 : K.lookup f7 = some ⟨oc7, od7, .func (PySem.W.fnOf "_law_draw" "_law_draw" (defArgs s_7) (defBody s_7) (defScope s_7) .none kV7 dc7 pm7 an7 cd7 ct7), sl7⟩)
    (d7 : PySem.W.codeIn K cd7 "_law_draw" = true)
    (k7 : PySem.W.keepIn K (.ref f7) = true)
    (a8 : PySem.W.nsIn K mainGlobals "_law_same" = some (some (.ref f8)))
    (l8 : K.lookup f8 = some ⟨oc8, od8, .func (PySem.W.fnOf "_law_same" "_law_same" (defArgs s_8) (defBody s_8) (defScope s_8) .none kV8 dc8 pm8 an8 cd8 ct8), sl8⟩)
    (d8 : PySem.W.codeIn K cd8 "_law_same" = true)
    (k8 : PySem.W.keepIn K (.ref f8) = true)
    (a9 : PySem.W.nsIn K mainGlobals "_law_product" = some (some (.ref f9)))
    (l9 : K.lookup f9 = some ⟨oc9, od9, .func (PySem.W.fnOf "_law_product" "_law_product" (defArgs s_9) (defBody s_9) (defScope s_9) .none kV9 dc9 pm9 an9 cd9 ct9), sl9⟩)
    (d9 : PySem.W.codeIn K cd9 "_law_product" = true)
    (k9 : PySem.W.keepIn K (.ref f9) = true)
    (a10 : PySem.W.nsIn K mainGlobals "_law_refused" = some (some (.ref f10)))
    (l10 : K.lookup f10 = some ⟨oc10, od10, .func (PySem.W.fnOf "_law_refused" "_law_refused" (defArgs s_10) (defBody s_10) (defScope s_10) .none kV10 dc10 pm10 an10 cd10 ct10), sl10⟩)
    (d10 : PySem.W.codeIn K cd10 "_law_refused" = true)
    (k10 : PySem.W.keepIn K (.ref f10) = true)
    (a11 : PySem.W.nsIn K mainGlobals "law" = some (some (.ref f11)))
    (l11 : K.lookup f11 = some ⟨oc11, od11, .func (PySem.W.fnOf "law" "law" (defArgs s_11) (defBody s_11) (defScope s_11) .none kV11 dc11 pm11 an11 cd11 ct11), sl11⟩)
    (d11 : PySem.W.codeIn K cd11 "law" = true)
    (k11 : PySem.W.keepIn K (.ref f11) = true)
    (z_all : PySem.W.nsIn K mainGlobals "all" = some none)
    (z_bool : PySem.W.nsIn K mainGlobals "bool" = some none)
    (z_int : PySem.W.nsIn K mainGlobals "int" = some none)
    (z_isinstance : PySem.W.nsIn K mainGlobals "isinstance" = some none)
    (z_len : PySem.W.nsIn K mainGlobals "len" = some none)
    (z_list : PySem.W.nsIn K mainGlobals "list" = some none)
    (z_max : PySem.W.nsIn K mainGlobals "max" = some none)
    (z_range : PySem.W.nsIn K mainGlobals "range" = some none)
    (z_str : PySem.W.nsIn K mainGlobals "str" = some none)
    (z_tuple : PySem.W.nsIn K mainGlobals "tuple" = some none)
    (e0_BadText : PySem.W.nsIn K mainGlobals "BadText" = some (some (.ref c_BadText)))
    (e1_BadText : True)
    (e2_BadText : PySem.W.keepIn K (.ref c_BadText) = true)
    (e3_BadText : PySem.W.subIn K (.ref c_BadText) (.type "BaseException") = some true)
    (e4_BadText : PySem.W.typeIn K (.ref c_BadText) = some (.type "type"))
    (e5_BadText : PySem.W.findIn K (.ref c_BadText) "__getattribute__" = some (some (.builtin "BaseException.__getattribute__")))
    (e6_BadText : PySem.W.findIn K (.ref c_BadText) "__getattr__" = some none)
    (e7_BadText : PySem.W.hasDictIn K c_BadText = true)
    (e8_BadText : PySem.W.findIn K (.ref c_BadText) "__class__" = some (some (.builtin "object.__class__")))
    (e9_BadText : PySem.W.specialIn K (.builtin "object.__class__") "__get__" = some (some (.builtin "getset_descriptor.__get__")))
    (ea_BadText : PySem.W.takesIn K (.builtin "object.__class__") = some true)
    (eb_BadText : PySem.W.mroIn K c_BadText (.type "object") = some true)
    (e0_NoAnswer : PySem.W.nsIn K mainGlobals "NoAnswer" = some (some (.ref c_NoAnswer)))
    (e1_NoAnswer : PySem.W.excIn K c_NoAnswer [.type "ValueError", .type "Exception", .type "BaseException", .type "object"] "ValueError.__new__" = true)
    (e2_NoAnswer : PySem.W.keepIn K (.ref c_NoAnswer) = true)
    (e3_NoAnswer : PySem.W.subIn K (.ref c_NoAnswer) (.type "BaseException") = some true)
    (e4_NoAnswer : PySem.W.typeIn K (.ref c_NoAnswer) = some (.type "type"))
    (e5_NoAnswer : PySem.W.findIn K (.ref c_NoAnswer) "__getattribute__" = some (some (.builtin "BaseException.__getattribute__")))
    (e6_NoAnswer : PySem.W.findIn K (.ref c_NoAnswer) "__getattr__" = some none)
    (e7_NoAnswer : PySem.W.hasDictIn K c_NoAnswer = true)
    (e8_NoAnswer : PySem.W.findIn K (.ref c_NoAnswer) "__class__" = some (some (.builtin "object.__class__")))
    (e9_NoAnswer : PySem.W.specialIn K (.builtin "object.__class__") "__get__" = some (some (.builtin "getset_descriptor.__get__")))
    (ea_NoAnswer : PySem.W.takesIn K (.builtin "object.__class__") = some true)
    (eb_NoAnswer : PySem.W.mroIn K c_NoAnswer (.type "object") = some true)
    (e0_NotAllowed : PySem.W.nsIn K mainGlobals "NotAllowed" = some (some (.ref c_NotAllowed)))
    (e1_NotAllowed : True)
    (e2_NotAllowed : PySem.W.keepIn K (.ref c_NotAllowed) = true)
    (e3_NotAllowed : PySem.W.subIn K (.ref c_NotAllowed) (.type "BaseException") = some true)
    (e4_NotAllowed : PySem.W.typeIn K (.ref c_NotAllowed) = some (.type "type"))
    (e5_NotAllowed : PySem.W.findIn K (.ref c_NotAllowed) "__getattribute__" = some (some (.builtin "BaseException.__getattribute__")))
    (e6_NotAllowed : PySem.W.findIn K (.ref c_NotAllowed) "__getattr__" = some none)
    (e7_NotAllowed : PySem.W.hasDictIn K c_NotAllowed = true)
    (e8_NotAllowed : PySem.W.findIn K (.ref c_NotAllowed) "__class__" = some (some (.builtin "object.__class__")))
    (e9_NotAllowed : PySem.W.specialIn K (.builtin "object.__class__") "__get__" = some (some (.builtin "getset_descriptor.__get__")))
    (ea_NotAllowed : PySem.W.takesIn K (.builtin "object.__class__") = some true)
    (eb_NotAllowed : PySem.W.mroIn K c_NotAllowed (.type "object") = some true)
    (e0_NotPossible : PySem.W.nsIn K mainGlobals "NotPossible" = some (some (.ref c_NotPossible)))
    (e1_NotPossible : True)
    (e2_NotPossible : PySem.W.keepIn K (.ref c_NotPossible) = true)
    (e3_NotPossible : PySem.W.subIn K (.ref c_NotPossible) (.type "BaseException") = some true)
    (e4_NotPossible : PySem.W.typeIn K (.ref c_NotPossible) = some (.type "type"))
    (e5_NotPossible : PySem.W.findIn K (.ref c_NotPossible) "__getattribute__" = some (some (.builtin "BaseException.__getattribute__")))
    (e6_NotPossible : PySem.W.findIn K (.ref c_NotPossible) "__getattr__" = some none)
    (e7_NotPossible : PySem.W.hasDictIn K c_NotPossible = true)
    (e8_NotPossible : PySem.W.findIn K (.ref c_NotPossible) "__class__" = some (some (.builtin "object.__class__")))
    (e9_NotPossible : PySem.W.specialIn K (.builtin "object.__class__") "__get__" = some (some (.builtin "getset_descriptor.__get__")))
    (ea_NotPossible : PySem.W.takesIn K (.builtin "object.__class__") = some true)
    (eb_NotPossible : PySem.W.mroIn K c_NotPossible (.type "object") = some true)
    (e0_TooMany : PySem.W.nsIn K mainGlobals "TooMany" = some (some (.ref c_TooMany)))
    (e1_TooMany : True)
    (e2_TooMany : PySem.W.keepIn K (.ref c_TooMany) = true)
    (e3_TooMany : PySem.W.subIn K (.ref c_TooMany) (.type "BaseException") = some true)
    (e4_TooMany : PySem.W.typeIn K (.ref c_TooMany) = some (.type "type"))
    (e5_TooMany : PySem.W.findIn K (.ref c_TooMany) "__getattribute__" = some (some (.builtin "BaseException.__getattribute__")))
    (e6_TooMany : PySem.W.findIn K (.ref c_TooMany) "__getattr__" = some none)
    (e7_TooMany : PySem.W.hasDictIn K c_TooMany = true)
    (e8_TooMany : PySem.W.findIn K (.ref c_TooMany) "__class__" = some (some (.builtin "object.__class__")))
    (e9_TooMany : PySem.W.specialIn K (.builtin "object.__class__") "__get__" = some (some (.builtin "getset_descriptor.__get__")))
    (ea_TooMany : PySem.W.takesIn K (.builtin "object.__class__") = some true)
    (eb_TooMany : PySem.W.mroIn K c_TooMany (.type "object") = some true)
    (s_NoAnswer : PySem.W.subIn K (.ref c_NoAnswer) (.ref c_NoAnswer) = some true)
    (kk_NoAnswer_BadText : PySem.W.kitOne K (.ref c_NoAnswer) (.ref c_BadText) = some false)
    (kk_NoAnswer_NotAllowed : PySem.W.kitOne K (.ref c_NoAnswer) (.ref c_NotAllowed) = some false)
    (kk_NoAnswer_NotPossible : PySem.W.kitOne K (.ref c_NoAnswer) (.ref c_NotPossible) = some false)
    (kk_NoAnswer_TooMany : PySem.W.kitOne K (.ref c_NoAnswer) (.ref c_TooMany) = some false)
    : ∃ fd : FuncData, (∀ (s : Shared) (v : Value), BindsTo s fd ⟨[v], []⟩ [("script", v)]) ∧ ∀ base : Heap, K.In base → base.Ns mainGlobals mg → FnOk l.prog w K mg base (L2.CX l.prog w) 60 fa fd ["script"] (spOf ⟨l.prog, w, K, mg⟩ (sem 60 11)) := by
  have e := hfa.symm.trans (PySem.W.mg_of KX G a11)
  cases e
  have F0 := fun_mk (st := s_0) l0 d0 k0
  have B0 := F0.binds (ps := ["a"]) fun _ _ _ _ _ _ us hl => match us, hl with | [_], _ => rfl
  have F1 := fun_mk (st := s_1) l1 d1 k1
  have B1 := F1.binds (ps := ["a", "b"]) fun _ _ _ _ _ _ us hl => match us, hl with | [_, _], _ => rfl
  have F2 := fun_mk (st := s_2) l2 d2 k2
  have B2 := F2.binds (ps := ["a", "k"]) fun _ _ _ _ _ _ us hl => match us, hl with | [_, _], _ => rfl
  have F3 := fun_mk (st := s_3) l3 d3 k3
  have B3 := F3.binds (ps := ["a"]) fun _ _ _ _ _ _ us hl => match us, hl with | [_], _ => rfl
  have F4 := fun_mk (st := s_4) l4 d4 k4
  have B4 := F4.binds (ps := ["a"]) fun _ _ _ _ _ _ us hl => match us, hl with | [_], _ => rfl
  have F5 := fun_mk (st := s_5) l5 d5 k5
  have B5 := F5.binds (ps := ["script"]) fun _ _ _ _ _ _ us hl => match us, hl with | [_], _ => rfl
  have F6 := fun_mk (st := s_6) l6 d6 k6
  have B6 := F6.binds (ps := ["box"]) fun _ _ _ _ _ _ us hl => match us, hl with | [_], _ => rfl
  have F7 := fun_mk (st := s_7) l7 d7 k7
  have B7 := F7.binds (ps := ["box", "many"]) fun _ _ _ _ _ _ us hl => match us, hl with | [_, _], _ => rfl
  have F8 := fun_mk (st := s_8) l8 d8 k8
  have B8 := F8.binds (ps := ["a", "b"]) fun _ _ _ _ _ _ us hl => match us, hl with | [_, _], _ => rfl
  have F9 := fun_mk (st := s_9) l9 d9 k9
  have B9 := F9.binds (ps := ["a", "b", "met"]) fun _ _ _ _ _ _ us hl => match us, hl with | [_, _, _], _ => rfl
  have F10 := fun_mk (st := s_10) l10 d10 k10
  have B10 := F10.binds (ps := []) fun _ _ _ _ _ _ us hl => match us, hl with | [], _ => rfl
  have F11 := fun_mk (st := s_11) l11 d11 k11
  have B11 := F11.binds (ps := ["script"]) fun _ _ _ _ _ _ us hl => match us, hl with | [_], _ => rfl
  have T : Txt K mg c_BadText c_NoAnswer c_NotAllowed c_NotPossible c_TooMany := { n_all := PySem.W.mg_none_of KX G z_all, n_bool := PySem.W.mg_none_of KX G z_bool, n_int := PySem.W.mg_none_of KX G z_int, n_isinstance := PySem.W.mg_none_of KX G z_isinstance, n_len := PySem.W.mg_none_of KX G z_len, n_list := PySem.W.mg_none_of KX G z_list, n_max := PySem.W.mg_none_of KX G z_max, n_range := PySem.W.mg_none_of KX G z_range, n_str := PySem.W.mg_none_of KX G z_str, n_tuple := PySem.W.mg_none_of KX G z_tuple, x_BadText := { gC := PySem.W.mg_of KX G e0_BadText, kC := e2_BadText, sB := e3_BadText, ty := e4_BadText, ic := ⟨e5_BadText, e6_BadText, e3_BadText, e7_BadText, e8_BadText, e9_BadText, ea_BadText, eb_BadText⟩ }, x_NoAnswer := ⟨{ gC := PySem.W.mg_of KX G e0_NoAnswer, kC := e2_NoAnswer, sB := e3_NoAnswer, ty := e4_NoAnswer, ic := ⟨e5_NoAnswer, e6_NoAnswer, e3_NoAnswer, e7_NoAnswer, e8_NoAnswer, e9_NoAnswer, ea_NoAnswer, eb_NoAnswer⟩ }, e1_NoAnswer⟩, x_NotAllowed := { gC := PySem.W.mg_of KX G e0_NotAllowed, kC := e2_NotAllowed, sB := e3_NotAllowed, ty := e4_NotAllowed, ic := ⟨e5_NotAllowed, e6_NotAllowed, e3_NotAllowed, e7_NotAllowed, e8_NotAllowed, e9_NotAllowed, ea_NotAllowed, eb_NotAllowed⟩ }, x_NotPossible := { gC := PySem.W.mg_of KX G e0_NotPossible, kC := e2_NotPossible, sB := e3_NotPossible, ty := e4_NotPossible, ic := ⟨e5_NotPossible, e6_NotPossible, e3_NotPossible, e7_NotPossible, e8_NotPossible, e9_NotPossible, ea_NotPossible, eb_NotPossible⟩ }, x_TooMany := { gC := PySem.W.mg_of KX G e0_TooMany, kC := e2_TooMany, sB := e3_TooMany, ty := e4_TooMany, ic := ⟨e5_TooMany, e6_TooMany, e3_TooMany, e7_TooMany, e8_TooMany, e9_TooMany, ea_TooMany, eb_TooMany⟩ }, s_NoAnswer := s_NoAnswer, k_NoAnswer_BadText := kk_NoAnswer_BadText, k_NoAnswer_NotAllowed := kk_NoAnswer_NotAllowed, k_NoAnswer_NotPossible := kk_NoAnswer_NotPossible, k_NoAnswer_TooMany := kk_NoAnswer_TooMany }
  have D : Fns K mg := ⟨⟨_, _, PySem.W.mg_of KX G a0, F0, B0⟩, ⟨_, _, PySem.W.mg_of KX G a1, F1, B1⟩, ⟨_, _, PySem.W.mg_of KX G a2, F2, B2⟩, ⟨_, _, PySem.W.mg_of KX G a3, F3, B3⟩, ⟨_, _, PySem.W.mg_of KX G a4, F4, B4⟩, ⟨_, _, PySem.W.mg_of KX G a5, F5, B5⟩, ⟨_, _, PySem.W.mg_of KX G a6, F6, B6⟩, ⟨_, _, PySem.W.mg_of KX G a7, F7, B7⟩, ⟨_, _, PySem.W.mg_of KX G a8, F8, B8⟩, ⟨_, _, PySem.W.mg_of KX G a9, F9, B9⟩, ⟨_, _, PySem.W.mg_of KX G a10, F10, B10⟩, ⟨_, _, PySem.W.mg_of KX G a11, F11, B11⟩⟩
  exact ⟨PySem.W.fnOf "law" "law" (defArgs s_11) (defBody s_11) (defScope s_11) .none kV11 dc11 pm11 an11 cd11 ct11, fun s v => .of_eq rfl, fun base _ _ => l_11 T (fun i => all_defs T D 59 i) F11⟩
end K61

set_option Elab.async false
open PySem PySem.W PyProof.Rows
set_option maxRecDepth 100000 in
set_option maxHeartbeats 0 in
theorem PySem.Challenge.cw_cantmove_k61_whole_products_holds : PySem.Challenge.rw_cantmove_k61_whole_products.Holds := by
  w_on; o_law; k_head; (case hw => w_witness2)
  k_fill
  refine Z.walk (l := PySem.Challenge.rw_cantmove_k61_whole_products) (g := K61.sem 60 11) (k := 60) rfl rfl ⟨rfl, by decide, by decide⟩ (fun w h Y => PySem.W.kIn_of Y) ?F K61.plain
  case F =>
    intro w mg fa h KX G hmg
    refine' K61.all_mk KX G hmg ?a0 ?l0 ?d0 ?k0 ?a1 ?l1 ?d1 ?k1 ?a2 ?l2 ?d2 ?k2 ?a3 ?l3 ?d3 ?k3 ?a4 ?l4 ?d4 ?k4 ?a5 ?l5 ?d5 ?k5 ?a6 ?l6 ?d6 ?k6 ?a7 ?l7 ?d7 ?k7 ?a8 ?l8 ?d8 ?k8 ?a9 ?l9 ?d9 ?k9 ?a10 ?l10 ?d10 ?k10 ?a11 ?l11 ?d11 ?k11 ?z_all ?z_bool ?z_int ?z_isinstance ?z_len ?z_list ?z_max ?z_range ?z_str ?z_tuple ?e0_BadText ?e1_BadText ?e2_BadText ?e3_BadText ?e4_BadText ?e5_BadText ?e6_BadText ?e7_BadText ?e8_BadText ?e9_BadText ?ea_BadText ?eb_BadText ?e0_NoAnswer ?e1_NoAnswer ?e2_NoAnswer ?e3_NoAnswer ?e4_NoAnswer ?e5_NoAnswer ?e6_NoAnswer ?e7_NoAnswer ?e8_NoAnswer ?e9_NoAnswer ?ea_NoAnswer ?eb_NoAnswer ?e0_NotAllowed ?e1_NotAllowed ?e2_NotAllowed ?e3_NotAllowed ?e4_NotAllowed ?e5_NotAllowed ?e6_NotAllowed ?e7_NotAllowed ?e8_NotAllowed ?e9_NotAllowed ?ea_NotAllowed ?eb_NotAllowed ?e0_NotPossible ?e1_NotPossible ?e2_NotPossible ?e3_NotPossible ?e4_NotPossible ?e5_NotPossible ?e6_NotPossible ?e7_NotPossible ?e8_NotPossible ?e9_NotPossible ?ea_NotPossible ?eb_NotPossible ?e0_TooMany ?e1_TooMany ?e2_TooMany ?e3_TooMany ?e4_TooMany ?e5_TooMany ?e6_TooMany ?e7_TooMany ?e8_TooMany ?e9_TooMany ?ea_TooMany ?eb_TooMany ?s_NoAnswer ?kk_NoAnswer_BadText ?kk_NoAnswer_NotAllowed ?kk_NoAnswer_NotPossible ?kk_NoAnswer_TooMany
    (case a0 => first | k_is | rfl | exact trivial)
    (case l0 => first | k_is | rfl | exact trivial)
    (case d0 => first | k_is | rfl | exact trivial)
    (case k0 => first | k_is | rfl | exact trivial)
    (case a1 => first | k_is | rfl | exact trivial)
    (case l1 => first | k_is | rfl | exact trivial)
    (case d1 => first | k_is | rfl | exact trivial)
    (case k1 => first | k_is | rfl | exact trivial)
    (case a2 => first | k_is | rfl | exact trivial)
    (case l2 => first | k_is | rfl | exact trivial)
    (case d2 => first | k_is | rfl | exact trivial)
    (case k2 => first | k_is | rfl | exact trivial)
    (case a3 => first | k_is | rfl | exact trivial)
    (case l3 => first | k_is | rfl | exact trivial)
    (case d3 => first | k_is | rfl | exact trivial)
    (case k3 => first | k_is | rfl | exact trivial)
    (case a4 => first | k_is | rfl | exact trivial)
    (case l4 => first | k_is | rfl | exact trivial)
    (case d4 => first | k_is | rfl | exact trivial)
    (case k4 => first | k_is | rfl | exact trivial)
    (case a5 => first | k_is | rfl | exact trivial)
    (case l5 => first | k_is | rfl | exact trivial)
    (case d5 => first | k_is | rfl | exact trivial)
    (case k5 => first | k_is | rfl | exact trivial)
    (case a6 => first | k_is | rfl | exact trivial)
    (case l6 => first | k_is | rfl | exact trivial)
    (case d6 => first | k_is | rfl | exact trivial)
    (case k6 => first | k_is | rfl | exact trivial)
    (case a7 => first | k_is | rfl | exact trivial)
    (case l7 => first | k_is | rfl | exact trivial)
    (case d7 => first | k_is | rfl | exact trivial)
    (case k7 => first | k_is | rfl | exact trivial)
    (case a8 => first | k_is | rfl | exact trivial)
    (case l8 => first | k_is | rfl | exact trivial)
    (case d8 => first | k_is | rfl | exact trivial)
    (case k8 => first | k_is | rfl | exact trivial)
    (case a9 => first | k_is | rfl | exact trivial)
    (case l9 => first | k_is | rfl | exact trivial)
    (case d9 => first | k_is | rfl | exact trivial)
    (case k9 => first | k_is | rfl | exact trivial)
    (case a10 => first | k_is | rfl | exact trivial)
    (case l10 => first | k_is | rfl | exact trivial)
    (case d10 => first | k_is | rfl | exact trivial)
    (case k10 => first | k_is | rfl | exact trivial)
    (case a11 => first | k_is | rfl | exact trivial)
    (case l11 => first | k_is | rfl | exact trivial)
    (case d11 => first | k_is | rfl | exact trivial)
    (case k11 => first | k_is | rfl | exact trivial)
    (case z_all => first | k_is | rfl | exact trivial)
    (case z_bool => first | k_is | rfl | exact trivial)
    (case z_int => first | k_is | rfl | exact trivial)
    (case z_isinstance => first | k_is | rfl | exact trivial)
    (case z_len => first | k_is | rfl | exact trivial)
    (case z_list => first | k_is | rfl | exact trivial)
    (case z_max => first | k_is | rfl | exact trivial)
    (case z_range => first | k_is | rfl | exact trivial)
    (case z_str => first | k_is | rfl | exact trivial)
    (case z_tuple => first | k_is | rfl | exact trivial)
    (case e0_BadText => first | k_is | rfl | exact trivial)
    (case e1_BadText => first | k_is | rfl | exact trivial)
    (case e2_BadText => first | k_is | rfl | exact trivial)
    (case e3_BadText => first | k_is | rfl | exact trivial)
    (case e4_BadText => first | k_is | rfl | exact trivial)
    (case e5_BadText => first | k_is | rfl | exact trivial)
    (case e6_BadText => first | k_is | rfl | exact trivial)
    (case e7_BadText => first | k_is | rfl | exact trivial)
    (case e8_BadText => first | k_is | rfl | exact trivial)
    (case e9_BadText => first | k_is | rfl | exact trivial)
    (case ea_BadText => first | k_is | rfl | exact trivial)
    (case eb_BadText => first | k_is | rfl | exact trivial)
    (case e0_NoAnswer => first | k_is | rfl | exact trivial)
    (case e1_NoAnswer => k_exc)
    (case e2_NoAnswer => first | k_is | rfl | exact trivial)
    (case e3_NoAnswer => first | k_is | rfl | exact trivial)
    (case e4_NoAnswer => first | k_is | rfl | exact trivial)
    (case e5_NoAnswer => first | k_is | rfl | exact trivial)
    (case e6_NoAnswer => first | k_is | rfl | exact trivial)
    (case e7_NoAnswer => first | k_is | rfl | exact trivial)
    (case e8_NoAnswer => first | k_is | rfl | exact trivial)
    (case e9_NoAnswer => first | k_is | rfl | exact trivial)
    (case ea_NoAnswer => first | k_is | rfl | exact trivial)
    (case eb_NoAnswer => first | k_is | rfl | exact trivial)
    (case e0_NotAllowed => first | k_is | rfl | exact trivial)
    (case e1_NotAllowed => first | k_is | rfl | exact trivial)
    (case e2_NotAllowed => first | k_is | rfl | exact trivial)
    (case e3_NotAllowed => first | k_is | rfl | exact trivial)
    (case e4_NotAllowed => first | k_is | rfl | exact trivial)
    (case e5_NotAllowed => first | k_is | rfl | exact trivial)
    (case e6_NotAllowed => first | k_is | rfl | exact trivial)
    (case e7_NotAllowed => first | k_is | rfl | exact trivial)
    (case e8_NotAllowed => first | k_is | rfl | exact trivial)
    (case e9_NotAllowed => first | k_is | rfl | exact trivial)
    (case ea_NotAllowed => first | k_is | rfl | exact trivial)
    (case eb_NotAllowed => first | k_is | rfl | exact trivial)
    (case e0_NotPossible => first | k_is | rfl | exact trivial)
    (case e1_NotPossible => first | k_is | rfl | exact trivial)
    (case e2_NotPossible => first | k_is | rfl | exact trivial)
    (case e3_NotPossible => first | k_is | rfl | exact trivial)
    (case e4_NotPossible => first | k_is | rfl | exact trivial)
    (case e5_NotPossible => first | k_is | rfl | exact trivial)
    (case e6_NotPossible => first | k_is | rfl | exact trivial)
    (case e7_NotPossible => first | k_is | rfl | exact trivial)
    (case e8_NotPossible => first | k_is | rfl | exact trivial)
    (case e9_NotPossible => first | k_is | rfl | exact trivial)
    (case ea_NotPossible => first | k_is | rfl | exact trivial)
    (case eb_NotPossible => first | k_is | rfl | exact trivial)
    (case e0_TooMany => first | k_is | rfl | exact trivial)
    (case e1_TooMany => first | k_is | rfl | exact trivial)
    (case e2_TooMany => first | k_is | rfl | exact trivial)
    (case e3_TooMany => first | k_is | rfl | exact trivial)
    (case e4_TooMany => first | k_is | rfl | exact trivial)
    (case e5_TooMany => first | k_is | rfl | exact trivial)
    (case e6_TooMany => first | k_is | rfl | exact trivial)
    (case e7_TooMany => first | k_is | rfl | exact trivial)
    (case e8_TooMany => first | k_is | rfl | exact trivial)
    (case e9_TooMany => first | k_is | rfl | exact trivial)
    (case ea_TooMany => first | k_is | rfl | exact trivial)
    (case eb_TooMany => first | k_is | rfl | exact trivial)
    (case s_NoAnswer => first | k_is | rfl | exact trivial)
    (case kk_NoAnswer_BadText => first | k_is | rfl | exact trivial)
    (case kk_NoAnswer_NotAllowed => first | k_is | rfl | exact trivial)
    (case kk_NoAnswer_NotPossible => first | k_is | rfl | exact trivial)
    (case kk_NoAnswer_TooMany => first | k_is | rfl | exact trivial)

