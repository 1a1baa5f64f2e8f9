import PyProof.Rows.All
import Wide.All
import OpenK.AllK
import Wide.FinOn
import HandS.ForMost
import HandS.TupAny
import HandS.Defaults
import HandS.Flow
import HandS.IsInst
import HandS.Zip
import HandS.Wide
import HandS.Style
import HandS.More
import KE.GoesNew
import KE.GoesMore
import HandS.TupMul
import KE.KTupSum
import HandS.Head0
import HandS.HeadEnd
import HandS.Strs
import HandS.RevTup
import HandS.Rev
import HandS.SortKw
import KE.KUnpackStar
import HandS.NoneIn
import HandS.Head1
import HandS.Head2
import HandS.HeadHook1
import HandS.HeadHook2
import HandS.MakeKwOnly
import HandS.HeadHook3
import PySem.Challenge.RW_countfold_k12_sums_for_rows
set_option Elab.async false
set_option linter.all false
set_option maxRecDepth 100000
set_option maxHeartbeats 4000000
set_option autoImplicit false
namespace Mi
open PySem PySem.Spec L2
open PyProof.Rows hiding St

/-! ## plain data -/
inductive D where
  | non
  | bl (b : Bool)
  | int (i : Int)
  | str (x : Str)
  | tup (ds : List D)
  | lst (ds : List D)
  | scr (ds : List D)
  | ins (c : Nat) (ds : List D)
  | dic (ks : List Key) (ds : List D)
/-- what a name owns -/
inductive OD where
  | lst (ds : List D)
  | ins (c : Nat) (ds : List D)
  | dic (ks : List Key) (ds : List D)
def OD.d : OD → D
  | .lst ds => .lst ds
  | .ins c ds => .ins c ds
  | .dic ks ds => .dic ks ds
inductive En where
  | un
  | val (d : D)
  | own (o : OD)
  | bor (o : OD)
inductive R where
  | val (d : D)
  | loc (i : Nat)
  | fr (o : OD)
abbrev G := List En

/-- static facts of classes: the class's address, its attributes in order -/
structure Cls2 where
  cls : Nat → Addr
  flds : Nat → List Str

abbrev Av := Addr → Prop
def KL (K : PySem.W.Frag) (a : Addr) (xs : List V) : Prop :=
  ∃ (o : Obj) (its : Array Value) (n : Nat), K.lookup a = some o ∧ o.cls = .type "list" ∧ o.dict = none ∧ o.data = .seq its n ∧ its.size ≤ sizeLine ∧ Vals xs its.toList
/-- a tuple whose very object is known: no dict -/
def SqX (K : PySem.W.Frag) (H : Hp) (a : Addr) (xs : List V) : Prop :=
  (∃ o : Obj, H a = some (.frz o (.tup xs)) ∧ o.dict = none) ∨
    ∃ (o : Obj) (its : Array Value) (n : Nat), K.lookup a = some o ∧ o.cls = .type "tuple" ∧ o.dict = none ∧ o.data = .seq its n ∧ its.size ≤ sizeLine ∧ Vals xs its.toList
theorem SqX.t {K : PySem.W.Frag} {H : Hp} {a : Addr} {xs : List V} (h : SqX K H a xs) : SqT K H a xs := by
  rcases h with ⟨o, h, _⟩ | ⟨o, its, n, h1, h2, _, h3, h4, h5⟩
  · exact .inl (.inr ⟨o, h⟩)
  · exact .inr ⟨o, its, n, h1, h2, h3, h4, h5⟩
section
variable (T : Cls2) (K : PySem.W.Frag) (H : Hp) (av : Av)
mutual
def Rep : D → V → Prop
  | .non, v => v = .non
  | .bl b, v => v = .bl b
  | .int i, v => v = .int i
  | .str x, v => v = .str x
  | .tup ds, v => ∃ a xs, v = .ref a ∧ SqX K H a xs ∧ Reps ds xs
  | .lst ds, v => ∃ a xs, v = .ref a ∧ H a = some (.lst xs) ∧ ¬ av a ∧ Reps ds xs
  | .scr ds, v => ∃ a xs, v = .ref a ∧ ((Rd H a (.lst xs) ∧ ¬ av a) ∨ KL K a xs) ∧ Reps ds xs
  | .ins c ds, v => ∃ a dx xs, v = .ref a ∧ H a = some (.ins (T.cls c) dx ((T.flds c).zip xs)) ∧ xs.length ≤ (T.flds c).length ∧ ¬ av a ∧ Reps ds xs
  | .dic ks ds, v => ∃ a xs, v = .ref a ∧ H a = some (.dK (ks.zip xs)) ∧ ks.length = xs.length ∧ ¬ av a ∧ Reps ds xs
def Reps : List D → List V → Prop
  | [], vs => vs = []
  | d :: ds, vs => ∃ v r, vs = v :: r ∧ Rep d v ∧ Reps ds r
end
/-- what is owned, at its address -/
def ORep : OD → Addr → Prop
  | .lst ds, a => ∃ xs, H a = some (.lst xs) ∧ Reps T K H av ds xs
  | .ins c ds, a => ∃ dx xs, H a = some (.ins (T.cls c) dx ((T.flds c).zip xs)) ∧ xs.length ≤ (T.flds c).length ∧ Reps T K H av ds xs
  | .dic ks ds, a => ∃ xs, H a = some (.dK (ks.zip xs)) ∧ ks.length = xs.length ∧ Reps T K H av ds xs
end

/-- what may be written -/
def Wr : HO → Prop
  | .lst _ => True
  | .ins _ _ _ => True
  | .dK _ => True
  | _ => False

section
variable {T : Cls2} {K : PySem.W.Frag} {H H' : Hp} {av av' : Av}
theorem Reps.length : ∀ {ds : List D} {vs : List V}, Reps T K H av ds vs → ds.length = vs.length
  | [], _, h => by unfold Reps at h; subst h; rfl
  | d :: ds, _, h => by
    unfold Reps at h
    obtain ⟨v, r, rfl, _, h2⟩ := h
    simp [Reps.length h2]
theorem Reps.get : ∀ {ds : List D} {vs : List V} {i : Nat} {d : D}, Reps T K H av ds vs → ds[i]? = some d → ∃ v, vs[i]? = some v ∧ Rep T K H av d v
  | [], _, _, _, _, e => by simp at e
  | d :: ds, _, 0, _, h, e => by
    unfold Reps at h
    obtain ⟨v, r, rfl, h1, h2⟩ := h
    simp at e
    subst e
    exact ⟨v, by simp, h1⟩
  | d :: ds, _, i + 1, _, h, e => by
    unfold Reps at h
    obtain ⟨v, r, rfl, h1, h2⟩ := h
    obtain ⟨w, e1, e2⟩ := Reps.get (i := i) h2 (by simpa using e)
    exact ⟨w, by simpa using e1, e2⟩
theorem Reps.nil : Reps T K H av [] [] := by unfold Reps; rfl
theorem Reps.cons {d : D} {ds : List D} {v : V} {vs : List V} (h : Rep T K H av d v) (t : Reps T K H av ds vs) : Reps T K H av (d :: ds) (v :: vs) := by
  unfold Reps
  exact ⟨v, vs, rfl, h, t⟩
theorem Reps.cons_iff {d : D} {ds : List D} {v : V} {vs : List V} : Reps T K H av (d :: ds) (v :: vs) ↔ Rep T K H av d v ∧ Reps T K H av ds vs := by
  constructor
  · intro h
    unfold Reps at h
    obtain ⟨w, r, e, h1, h2⟩ := h
    cases e
    exact ⟨h1, h2⟩
  · intro h
    exact .cons h.1 h.2
theorem Reps.nil_inv {vs : List V} (h : Reps T K H av [] vs) : vs = [] := by unfold Reps at h; exact h
theorem Reps.cons_inv {d : D} {ds : List D} {vs : List V} (h : Reps T K H av (d :: ds) vs) : ∃ v r, vs = v :: r ∧ Rep T K H av d v ∧ Reps T K H av ds r := by unfold Reps at h; exact h
theorem Reps.append : ∀ {ds es : List D} {vs us : List V}, Reps T K H av ds vs → Reps T K H av es us → Reps T K H av (ds ++ es) (vs ++ us)
  | [], _, _, _, h, t => by unfold Reps at h; subst h; exact t
  | d :: ds, _, _, _, h, t => by
    unfold Reps at h
    obtain ⟨v, r, rfl, h1, h2⟩ := h
    exact .cons h1 (Reps.append h2 t)
theorem Reps.take : ∀ {ds : List D} {vs : List V} (n : Nat), Reps T K H av ds vs → Reps T K H av (ds.take n) (vs.take n)
  | _, _, 0, _ => by simp; exact .nil
  | [], _, _ + 1, h => by unfold Reps at h; subst h; simp; exact .nil
  | d :: ds, _, n + 1, h => by
    unfold Reps at h
    obtain ⟨v, r, rfl, h1, h2⟩ := h
    exact .cons h1 (Reps.take n h2)
theorem Reps.drop : ∀ {ds : List D} {vs : List V} (n : Nat), Reps T K H av ds vs → Reps T K H av (ds.drop n) (vs.drop n)
  | _, _, 0, h => by simpa using h
  | [], _, _ + 1, h => by unfold Reps at h; subst h; simp; exact .nil
  | d :: ds, _, n + 1, h => by
    unfold Reps at h
    obtain ⟨v, r, rfl, h1, h2⟩ := h
    exact Reps.drop n h2
theorem Reps.set {d : D} {v : V} (r : Rep T K H av d v) : ∀ {ds : List D} {vs : List V} (i : Nat), Reps T K H av ds vs → Reps T K H av (ds.set i d) (vs.set i v)
  | [], _, _, h => by unfold Reps at h; subst h; simp; exact .nil
  | e :: ds, _, 0, h => by
    unfold Reps at h
    obtain ⟨w, q, rfl, h1, h2⟩ := h
    exact .cons r h2
  | e :: ds, _, i + 1, h => by
    unfold Reps at h
    obtain ⟨w, q, rfl, h1, h2⟩ := h
    exact .cons h1 (Reps.set r i h2)
theorem Reps.get' : ∀ {ds : List D} {vs : List V} {i : Nat} {v : V}, Reps T K H av ds vs → vs[i]? = some v → ∃ d, ds[i]? = some d ∧ Rep T K H av d v := by
  intro ds vs i v h e
  have hi : i < ds.length := by rw [h.length]; exact (List.getElem?_eq_some_iff.mp e).1
  obtain ⟨w, e1, e2⟩ := h.get (List.getElem?_eq_getElem hi)
  rw [e] at e1
  cases e1
  exact ⟨_, List.getElem?_eq_getElem hi, e2⟩

/-- data stay, where what is written may be avoided ones alone -/
structure Kp (av : Av) (H : Hp) (av' : Av) (H' : Hp) : Prop where
  keep : ∀ a o, H a = some o → ¬ Wr o ∨ ¬ av a → H' a = some o
  av : ∀ a o, H a = some o → ¬ av a → ¬ av' a
theorem Kp.refl : Kp av H av H := ⟨fun _ _ h _ => h, fun _ _ _ h => h⟩
theorem SqT.kp {a : Addr} {xs : List V} (h : SqT K H a xs) (k : Kp av H av' H') : SqT K H' a xs := by
  rcases h with (h | ⟨o, h⟩) | h
  · exact .inl (.inl (k.keep _ _ h (.inl fun z => z)))
  · exact .inl (.inr ⟨o, k.keep _ _ h (.inl fun z => z)⟩)
  · exact .inr h
theorem SqX.kp {a : Addr} {xs : List V} (h : SqX K H a xs) (k : Kp av H av' H') : SqX K H' a xs := by
  rcases h with ⟨o, h, e⟩ | h
  · exact .inl ⟨o, k.keep _ _ h (.inl fun z => z), e⟩
  · exact .inr h
mutual
theorem Rep.kp (k : Kp av H av' H') : ∀ {d : D} {v : V}, Rep T K H av d v → Rep T K H' av' d v
  | .non, _, h => by unfold Rep at *; exact h
  | .bl _, _, h => by unfold Rep at *; exact h
  | .int _, _, h => by unfold Rep at *; exact h
  | .str _, _, h => by unfold Rep at *; exact h
  | .tup ds, _, h => by
    unfold Rep at *
    obtain ⟨a, xs, e, h1, h2⟩ := h
    exact ⟨a, xs, e, SqX.kp h1 k, Reps.kp k h2⟩
  | .lst ds, _, h => by
    unfold Rep at *
    obtain ⟨a, xs, e, h1, h2, h3⟩ := h
    exact ⟨a, xs, e, k.keep _ _ h1 (.inr h2), k.av _ _ h1 h2, Reps.kp k h3⟩
  | .scr ds, _, h => by
    unfold Rep at *
    obtain ⟨a, xs, e, h1, h3⟩ := h
    refine ⟨a, xs, e, ?_, Reps.kp k h3⟩
    rcases h1 with ⟨h1 | ⟨o, h1⟩, h2⟩ | h1
    · exact .inl ⟨.inl (k.keep _ _ h1 (.inr h2)), k.av _ _ h1 h2⟩
    · exact .inl ⟨.inr ⟨o, k.keep _ _ h1 (.inr h2)⟩, k.av _ _ h1 h2⟩
    · exact .inr h1
  | .ins c ds, _, h => by
    unfold Rep at *
    obtain ⟨a, dx, xs, e, h1, hl, h2, h3⟩ := h
    exact ⟨a, dx, xs, e, k.keep _ _ h1 (.inr h2), hl, k.av _ _ h1 h2, Reps.kp k h3⟩
  | .dic ks ds, _, h => by
    unfold Rep at *
    obtain ⟨a, xs, e, h1, hl, h2, h3⟩ := h
    exact ⟨a, xs, e, k.keep _ _ h1 (.inr h2), hl, k.av _ _ h1 h2, Reps.kp k h3⟩
theorem Reps.kp (k : Kp av H av' H') : ∀ {ds : List D} {vs : List V}, Reps T K H av ds vs → Reps T K H' av' ds vs
  | [], _, h => by unfold Reps at *; exact h
  | d :: ds, _, h => by
    unfold Reps at *
    obtain ⟨v, r, e, h1, h2⟩ := h
    exact ⟨v, r, e, Rep.kp k h1, Reps.kp k h2⟩
end
/-- fewer are avoided -/
theorem Kp.less (h : ∀ a, av' a → av a) : Kp av H av' H := ⟨fun _ _ h _ => h, fun a _ _ n z => n (h a z)⟩
theorem ORep.kp {o : OD} {a : Addr} (k : Kp av H av' H') (e : H' a = H a) (h : ORep T K H av o a) : ORep T K H' av' o a := by
  cases o with
  | lst ds => obtain ⟨xs, h1, h2⟩ := h; exact ⟨xs, e.trans h1, h2.kp k⟩
  | ins c ds => obtain ⟨dx, xs, h1, hl, h2⟩ := h; exact ⟨dx, xs, e.trans h1, hl, h2.kp k⟩
  | dic ks ds => obtain ⟨xs, h1, hl, h2⟩ := h; exact ⟨xs, e.trans h1, hl, h2.kp k⟩
theorem ORep.wr {o : OD} {a : Addr} (h : ORep T K H av o a) : ∃ u, H a = some u ∧ Wr u := by
  cases o with
  | lst ds => obtain ⟨xs, h1, h2⟩ := h; exact ⟨_, h1, trivial⟩
  | ins c ds => obtain ⟨dx, xs, h1, hl, h2⟩ := h; exact ⟨_, h1, trivial⟩
  | dic ks ds => obtain ⟨xs, h1, hl, h2⟩ := h; exact ⟨_, h1, trivial⟩
/-- an owned thing that is avoided no more -/
theorem ORep.rep {o : OD} {a : Addr} (h : ORep T K H av o a) (n : ¬ av a) : Rep T K H av o.d (.ref a) := by
  cases o with
  | lst ds => obtain ⟨xs, h1, h2⟩ := h; unfold OD.d Rep; exact ⟨a, xs, rfl, h1, n, h2⟩
  | ins c ds => obtain ⟨dx, xs, h1, hl, h2⟩ := h; unfold OD.d Rep; exact ⟨a, dx, xs, rfl, h1, hl, n, h2⟩
  | dic ks ds => obtain ⟨xs, h1, hl, h2⟩ := h; unfold OD.d Rep; exact ⟨a, xs, rfl, h1, hl, n, h2⟩
end

/-! ## the state -/
section
variable (T : Cls2) (K : PySem.W.Frag)
def ERep (H : Hp) (av : Av) : En → Option (Option V) → Prop
  | .un, _ => True
  | .val d, x => ∃ v, x = some (some v) ∧ Rep T K H av d v
  | .own o, x => ∃ p, x = some (some (.ref p)) ∧ av p ∧ ORep T K H av o p
  | .bor o, x => ∃ p, x = some (some (.ref p)) ∧ av p ∧ ORep T K H av o p
def IsOwn : Option En → Prop
  | some (.own _) => True
  | _ => False
def IsBor : Option En → Prop
  | some (.bor _) => True
  | _ => False
structure Rel (av : Av) (Γ : G) (σ : St) (H : Hp) : Prop where
  len : Γ.length = σ.length
  ent : ∀ (i : Nat) e, Γ[i]? = some e → ERep T K H av e σ[i]?
  inj : ∀ (i j : Nat) p, IsOwn Γ[i]? → (IsOwn Γ[j]? ∨ IsBor Γ[j]?) → σ[i]? = some (some (.ref p)) → σ[j]? = some (some (.ref p)) → i = j
  trk : ∀ a, av a → ∃ o, H a = some o
end
def OwnAt (Γ : G) (σ : St) (i : Nat) (a : Addr) : Prop := IsOwn Γ[i]? ∧ σ[i]? = some (some (V.ref a))
def BorAt (Γ : G) (σ : St) (i : Nat) (a : Addr) : Prop := IsBor Γ[i]? ∧ σ[i]? = some (some (V.ref a))
def HeldAt (Γ : G) (σ : St) (i : Nat) (a : Addr) : Prop := OwnAt Γ σ i a ∨ BorAt Γ σ i a
/-- owned by a name -/
def OwnS (Γ : G) (σ : St) (a : Addr) : Prop := ∃ i : Nat, OwnAt Γ σ i a
/-- owned or lent -/
def Held (Γ : G) (σ : St) (a : Addr) : Prop := ∃ i : Nat, HeldAt Γ σ i a
section
variable {T : Cls2} {K : PySem.W.Frag} {H H' H1 H2 : Hp} {av av' av1 av2 : Av} {Γ Γ' Γ1 Γ2 : G} {σ σ' σ1 σ2 : St}
theorem isOwn_some {x : Option En} (h : IsOwn x) : ∃ o, x = some (.own o) := by
  cases x with
  | none => exact h.elim
  | some e => cases e <;> first | exact ⟨_, rfl⟩ | exact h.elim
theorem isBor_some {x : Option En} (h : IsBor x) : ∃ o, x = some (.bor o) := by
  cases x with
  | none => exact h.elim
  | some e => cases e <;> first | exact ⟨_, rfl⟩ | exact h.elim
theorem OwnAt.mk' {i : Nat} {o : OD} {a : Addr} (h : Γ[i]? = some (.own o)) (e : σ[i]? = some (some (V.ref a))) : OwnAt Γ σ i a := ⟨by rw [h]; trivial, e⟩
theorem BorAt.mk' {i : Nat} {o : OD} {a : Addr} (h : Γ[i]? = some (.bor o)) (e : σ[i]? = some (some (V.ref a))) : BorAt Γ σ i a := ⟨by rw [h]; trivial, e⟩
theorem Rel.own (r : Rel T K av Γ σ H) {i : Nat} {o : OD} (h : Γ[i]? = some (.own o)) : ∃ p, σ[i]? = some (some (V.ref p)) ∧ av p ∧ ORep T K H av o p := r.ent i _ h
theorem Rel.bor (r : Rel T K av Γ σ H) {i : Nat} {o : OD} (h : Γ[i]? = some (.bor o)) : ∃ p, σ[i]? = some (some (V.ref p)) ∧ av p ∧ ORep T K H av o p := r.ent i _ h
theorem Rel.inj' (r : Rel T K av Γ σ H) {i j : Nat} {p : Addr} (h1 : OwnAt Γ σ i p) (h2 : HeldAt Γ σ j p) : i = j := r.inj i j p h1.1 (h2.imp (fun z => z.1) (fun z => z.1)) h1.2 (h2.elim (fun z => z.2) (fun z => z.2))
theorem Rel.heldAt (r : Rel T K av Γ σ H) {i : Nat} {a : Addr} (h : HeldAt Γ σ i a) : av a ∧ ∃ u, H a = some u ∧ Wr u := by
  rcases h with ⟨h1, h2⟩ | ⟨h1, h2⟩
  · obtain ⟨o, e⟩ := isOwn_some h1
    obtain ⟨p, e1, e2, e3⟩ := r.own e
    rw [h2] at e1
    cases e1
    exact ⟨e2, e3.wr⟩
  · obtain ⟨o, e⟩ := isBor_some h1
    obtain ⟨p, e1, e2, e3⟩ := r.bor e
    rw [h2] at e1
    cases e1
    exact ⟨e2, e3.wr⟩
theorem Rel.ownS (r : Rel T K av Γ σ H) {a : Addr} (h : OwnS Γ σ a) : av a ∧ ∃ u, H a = some u ∧ Wr u := let ⟨_, h⟩ := h; r.heldAt (.inl h)
theorem Rel.held (r : Rel T K av Γ σ H) {a : Addr} (h : Held Γ σ a) : av a ∧ ∃ u, H a = some u ∧ Wr u := let ⟨_, h⟩ := h; r.heldAt h
/-- what code leaves -/
structure Fra (σ : St) (Γ : G) (av : Av) (H : Hp) (σ' : St) (Γ' : G) (av' : Av) (H' : Hp) : Prop where
  keep : ∀ a o, H a = some o → ¬ OwnS Γ σ a → H' a = some o
  thr : ∀ a o, H a = some o → ∃ o', H' a = some o'
  av1 : ∀ a, av a → ¬ OwnS Γ σ a → av' a
  av2 : ∀ a o, H a = some o → ¬ av a → ¬ av' a
  own : ∀ i a, OwnAt Γ' σ' i a → OwnAt Γ σ i a ∨ H a = none
  bor : ∀ i a, BorAt Γ' σ' i a → BorAt Γ σ i a
theorem Fra.refl : Fra σ Γ av H σ Γ av H := ⟨fun _ _ h _ => h, fun _ _ h => ⟨_, h⟩, fun _ h _ => h, fun _ _ _ h => h, fun _ _ h => .inl h, fun _ _ h => h⟩
theorem Fra.ownS (f : Fra σ Γ av H σ' Γ' av' H') {a : Addr} (h : OwnS Γ' σ' a) : OwnS Γ σ a ∨ H a = none := let ⟨i, h⟩ := h; (f.own i a h).imp (fun z => ⟨i, z⟩) id
theorem Fra.heldAt (f : Fra σ Γ av H σ' Γ' av' H') {i : Nat} {a : Addr} (h : HeldAt Γ' σ' i a) : HeldAt Γ σ i a ∨ H a = none := h.elim (fun z => (f.own i a z).imp .inl id) fun z => .inl (.inr (f.bor i a z))
theorem Fra.held (f : Fra σ Γ av H σ' Γ' av' H') {a : Addr} (h : Held Γ' σ' a) : Held Γ σ a ∨ H a = none := let ⟨i, h⟩ := h; (f.heldAt h).imp (fun z => ⟨i, z⟩) id
/-- what was free stays untracked backwards -/
theorem Fra.free (f : Fra σ Γ av H σ' Γ' av' H') {a : Addr} (h : H' a = none) : H a = none := by
  cases e : H a with
  | none => rfl
  | some o =>
    obtain ⟨o', e'⟩ := f.thr a o e
    rw [h] at e'
    cases e'
theorem Fra.trans (r : Rel T K av Γ σ H) (f : Fra σ Γ av H σ1 Γ1 av1 H1) (g : Fra σ1 Γ1 av1 H1 σ2 Γ2 av2 H2) : Fra σ Γ av H σ2 Γ2 av2 H2 where
  keep := fun a o h n => g.keep a o (f.keep a o h n) fun z => (f.ownS z).elim n fun q => by rw [h] at q; cases q
  thr := fun a o h => let ⟨o', h'⟩ := f.thr a o h; g.thr a o' h'
  av1 := fun a h n => by
    obtain ⟨o, ho⟩ := r.trk a h
    exact g.av1 a (f.av1 a h n) fun z => (f.ownS z).elim n fun q => by rw [ho] at q; cases q
  av2 := fun a o h n => by
    have no : ¬ OwnS Γ σ a := fun z => n (r.ownS z).1
    exact g.av2 a o (f.keep a o h no) (f.av2 a o h n)
  own := fun i a h => (g.own i a h).elim (fun z => f.own i a z) fun z => .inr (f.free z)
  bor := fun i a h => f.bor i a (g.bor i a h)
theorem Fra.kp (r : Rel T K av Γ σ H) (f : Fra σ Γ av H σ' Γ' av' H') : Kp av H av' H' := ⟨fun a o h w => f.keep a o h fun z => by
    obtain ⟨z1, u, z2, z3⟩ := r.ownS z
    rw [h] at z2
    cases z2
    rcases w with w | w
    · exact w z3
    · exact w z1, f.av2⟩

/-- a result: H0 the heap ahead of the expression -/
def RRep (T : Cls2) (K : PySem.W.Frag) (H0 : Hp) (σ : St) (Γ : G) (H : Hp) (av : Av) : R → V → Prop
  | .val d, v => Rep T K H av d v
  | .loc i, v => ∃ p, v = .ref p ∧ σ[i]? = some (some (V.ref p))
  | .fr o, v => ∃ p, v = .ref p ∧ ORep T K H av o p ∧ av p ∧ H0 p = none ∧ ¬ Held Γ σ p
/-- behind an expression -/
structure Post (T : Cls2) (K : PySem.W.Frag) (σ : St) (av : Av) (Γ : G) (H : Hp) (Γ' : G) (r : R) (v : V) (H' : Hp) (av' : Av) : Prop where
  rel : Rel T K av' Γ' σ H'
  rep : RRep T K H σ Γ' H' av' r v
  fra : Fra σ Γ av H σ Γ' av' H'
/-- a result stays through what comes behind -/
theorem RRep.fra {H0 : Hp} {r : R} {v : V} (rl : Rel T K av Γ σ H) (h : RRep T K H0 σ Γ H av r v) (f : Fra σ Γ av H σ Γ' av' H') : RRep T K H0 σ Γ' H' av' r v := by
  cases r with
  | val d => exact Rep.kp (f.kp rl) h
  | loc i => exact h
  | fr o =>
    obtain ⟨p, e, h1, h2, h3, h4⟩ := h
    have no : ¬ OwnS Γ σ p := fun ⟨i, z⟩ => h4 ⟨i, .inl z⟩
    obtain ⟨u, hu, _⟩ := h1.wr
    exact ⟨p, e, h1.kp (f.kp rl) (by rw [f.keep p u hu no, hu]), f.av1 p h2 no, h3, fun z => (f.held z).elim h4 fun q => by rw [hu] at q; cases q⟩
theorem RRep.older {H0 H00 : Hp} {r : R} {v : V} (h : RRep T K H0 σ Γ H av r v) (k : ∀ a, H0 a = none → H00 a = none) : RRep T K H00 σ Γ H av r v := by
  cases r with
  | val d => exact h
  | loc i => exact h
  | fr o =>
    obtain ⟨p, e, h1, h2, h3, h4⟩ := h
    exact ⟨p, e, h1, h2, k p h3, h4⟩

/-- looking at a result -/
def look (Γ : G) : R → Option D
  | .val d => some d
  | .fr o => some o.d
  | .loc i => match Γ[i]? with
    | some (.own o) => some o.d
    | some (.bor o) => some o.d
    | _ => none
/-- as look sees it -/
def VRep (T : Cls2) (K : PySem.W.Frag) (H : Hp) (av : Av) : D → V → Prop
  | .lst ds, v => ∃ a xs, v = .ref a ∧ H a = some (.lst xs) ∧ Reps T K H av ds xs
  | .ins c ds, v => ∃ a dx xs, v = .ref a ∧ H a = some (.ins (T.cls c) dx ((T.flds c).zip xs)) ∧ xs.length ≤ (T.flds c).length ∧ Reps T K H av ds xs
  | .dic ks ds, v => ∃ a xs, v = .ref a ∧ H a = some (.dK (ks.zip xs)) ∧ ks.length = xs.length ∧ Reps T K H av ds xs
  | d, v => Rep T K H av d v
theorem Rep.vrep {d : D} {v : V} (h : Rep T K H av d v) : VRep T K H av d v := by
  cases d with
  | lst ds => unfold Rep at h; obtain ⟨a, xs, e, h1, h2, h3⟩ := h; exact ⟨a, xs, e, h1, h3⟩
  | ins c ds => unfold Rep at h; obtain ⟨a, dx, xs, e, h1, hl, h2, h3⟩ := h; exact ⟨a, dx, xs, e, h1, hl, h3⟩
  | dic ks ds => unfold Rep at h; obtain ⟨a, xs, e, h1, hl, h2, h3⟩ := h; exact ⟨a, xs, e, h1, hl, h3⟩
  | non => exact h
  | bl _ => exact h
  | int _ => exact h
  | str _ => exact h
  | tup _ => exact h
  | scr _ => exact h
theorem ORep.vrep {o : OD} {p : Addr} (h : ORep T K H av o p) : VRep T K H av o.d (.ref p) := by
  cases o with
  | lst ds => obtain ⟨xs, h1, h2⟩ := h; exact ⟨p, xs, rfl, h1, h2⟩
  | ins c ds => obtain ⟨dx, xs, h1, hl, h2⟩ := h; exact ⟨p, dx, xs, rfl, h1, hl, h2⟩
  | dic ks ds => obtain ⟨xs, h1, hl, h2⟩ := h; exact ⟨p, xs, rfl, h1, hl, h2⟩
theorem look_ok {H0 : Hp} {r : R} {v : V} {d : D} (rl : Rel T K av Γ σ H) (h : RRep T K H0 σ Γ H av r v) (e : look Γ r = some d) : VRep T K H av d v := by
  cases r with
  | val d' => cases e; exact Rep.vrep h
  | fr o => cases e; obtain ⟨p, rfl, h1, _⟩ := h; exact h1.vrep
  | loc i =>
    obtain ⟨p, rfl, hp⟩ := h
    unfold look at e
    simp only at e
    split at e
    · rename_i o ho
      cases e
      obtain ⟨q, e1, e2, e3⟩ := rl.own ho
      rw [hp] at e1; cases e1
      exact e3.vrep
    · rename_i o ho
      cases e
      obtain ⟨q, e1, e2, e3⟩ := rl.bor ho
      rw [hp] at e1; cases e1
      exact e3.vrep
    · cases e
/-- as data for good -/
def frz (Γ : G) : R → Option (D × G)
  | .val d => some (d, Γ)
  | .fr o => some (o.d, Γ)
  | .loc i => match Γ[i]? with
    | some (.own o) => some (o.d, Γ.set i (.val o.d))
    | _ => none

/-- an entry changed that holds nothing then -/
theorem set_own {i j : Nat} {e : En} {a : Addr} (he : ¬ IsOwn (some e)) (h : OwnAt (Γ.set i e) σ j a) : OwnAt Γ σ j a ∧ j ≠ i := by
  obtain ⟨h1, h2⟩ := h
  by_cases hj : i = j
  · subst hj
    by_cases hi : i < Γ.length
    · rw [List.getElem?_set_self hi] at h1; exact (he h1).elim
    · rw [List.getElem?_eq_none (by rw [List.length_set]; omega)] at h1; exact h1.elim
  · rw [List.getElem?_set_ne hj] at h1; exact ⟨⟨h1, h2⟩, fun z => hj z.symm⟩
theorem set_bor {i j : Nat} {e : En} {a : Addr} (he : ¬ IsBor (some e)) (h : BorAt (Γ.set i e) σ j a) : BorAt Γ σ j a ∧ j ≠ i := by
  obtain ⟨h1, h2⟩ := h
  by_cases hj : i = j
  · subst hj
    by_cases hi : i < Γ.length
    · rw [List.getElem?_set_self hi] at h1; exact (he h1).elim
    · rw [List.getElem?_eq_none (by rw [List.length_set]; omega)] at h1; exact h1.elim
  · rw [List.getElem?_set_ne hj] at h1; exact ⟨⟨h1, h2⟩, fun z => hj z.symm⟩
/-- entries elsewhere, where fewer are avoided: none that is held is let go -/
theorem ERep.less {p : Addr} {e : En} {x : Option (Option V)} (h : ERep T K H av e x) (n : ∀ q, (IsOwn (some e) ∨ IsBor (some e)) → x = some (some (V.ref q)) → q ≠ p) : ERep T K H (fun a => av a ∧ a ≠ p) e x := by
  have kp : Kp av H (fun a => av a ∧ a ≠ p) H := Kp.less fun a z => z.1
  cases e with
  | un => trivial
  | val d => obtain ⟨v, z1, z2⟩ := h; exact ⟨v, z1, z2.kp kp⟩
  | own o' => obtain ⟨q', z1, z2, z3⟩ := h; exact ⟨q', z1, ⟨z2, n q' (.inl trivial) z1⟩, z3.kp kp rfl⟩
  | bor o' => obtain ⟨q', z1, z2, z3⟩ := h; exact ⟨q', z1, ⟨z2, n q' (.inr trivial) z1⟩, z3.kp kp rfl⟩
theorem heldAt_of {i : Nat} {e : En} {q : Addr} (he : Γ[i]? = some e) (h : IsOwn (some e) ∨ IsBor (some e)) (x : σ[i]? = some (some (V.ref q))) : HeldAt Γ σ i q := h.imp (fun z => ⟨by rw [he]; exact z, x⟩) fun z => ⟨by rw [he]; exact z, x⟩
/-- a name's thing is avoided no more -/
theorem Rel.release (rl : Rel T K av Γ σ H) {i : Nat} {o : OD} (h : Γ[i]? = some (.own o)) {p : Addr} (hp : σ[i]? = some (some (V.ref p))) :
    Rel T K (fun a => av a ∧ a ≠ p) (Γ.set i (.val o.d)) σ H ∧ Rep T K H (fun a => av a ∧ a ≠ p) o.d (.ref p) := by
  have hi : i < Γ.length := (List.getElem?_eq_some_iff.mp h).1
  have kp : Kp av H (fun a => av a ∧ a ≠ p) H := Kp.less fun a z => z.1
  obtain ⟨q, e1, e2, e3⟩ := rl.own h
  rw [hp] at e1; cases e1
  have rp : Rep T K H (fun a => av a ∧ a ≠ p) o.d (.ref p) := (e3.kp kp rfl).rep fun z => z.2 rfl
  refine ⟨⟨by rw [List.length_set]; exact rl.len, fun j e he => ?_, fun j k q h1 h2 h3 h4 => ?_, fun a z => rl.trk a z.1⟩, rp⟩
  · by_cases hj : i = j
    · subst hj
      rw [List.getElem?_set_self hi] at he
      cases he
      exact ⟨_, hp, rp⟩
    · rw [List.getElem?_set_ne hj] at he
      exact (rl.ent j e he).less fun q hq hx z => hj (rl.inj' (.mk' h hp) (z ▸ heldAt_of he hq hx))
  · obtain ⟨z1, _⟩ := set_own (σ := σ) (e := .val o.d) (fun z => z) ⟨h1, h3⟩
    refine rl.inj' z1 (h2.imp (fun z => (set_own (e := .val o.d) (fun z => z) ⟨z, h4⟩).1) fun z => (set_bor (e := .val o.d) (fun z => z) ⟨z, h4⟩).1)
/-- of what is walked: a tuple of the walk's own need not be known so well -/
def WRep (T : Cls2) (K : PySem.W.Frag) (H : Hp) (av : Av) : D → V → Prop
  | .tup ds, v => ∃ a xs, v = .ref a ∧ SqT K H a xs ∧ Reps T K H av ds xs
  | d, v => Rep T K H av d v
theorem Rep.wrep {d : D} {v : V} (h : Rep T K H av d v) : WRep T K H av d v := by
  cases d with
  | tup ds => unfold Rep at h; obtain ⟨a, xs, e, h1, h2⟩ := h; exact ⟨a, xs, e, h1.t, h2⟩
  | _ => exact h
def PRep (T : Cls2) (K : PySem.W.Frag) (w : Bool) (H : Hp) (av : Av) (d : D) (v : V) : Prop := if w = true then WRep T K H av d v else Rep T K H av d v
theorem Rep.prep {w : Bool} {d : D} {v : V} (h : Rep T K H av d v) : PRep T K w H av d v := by
  unfold PRep
  split
  · exact h.wrep
  · exact h
theorem PRep.w {w : Bool} {d : D} {v : V} (h : PRep T K w H av d v) : WRep T K H av d v := by
  unfold PRep at h
  split at h
  · exact h
  · exact h.wrep
/-- freezing behind an expression -/
theorem frz_ok {r : R} {v : V} {d : D} (rl0 : Rel T K av Γ σ H) (P : Post T K σ av Γ H Γ1 r v H1 av1) (e : frz Γ1 r = some (d, Γ2)) : ∃ av2, Post T K σ av Γ H Γ2 (.val d) v H1 av2 := by
  cases r with
  | val d' => cases e; exact ⟨av1, P⟩
  | fr o =>
    cases e
    obtain ⟨p, rfl, h1, h2, h3, h4⟩ := P.rep
    have kp : Kp av1 H1 (fun a => av1 a ∧ a ≠ p) H1 := Kp.less fun a z => z.1
    have rl := P.rel
    refine ⟨fun a => av1 a ∧ a ≠ p, ⟨⟨rl.len, fun j e he => ?_, rl.inj, fun a z => rl.trk a z.1⟩, (h1.kp kp rfl).rep fun z => z.2 rfl, ⟨P.fra.keep, P.fra.thr, fun a z n => ⟨P.fra.av1 a z n, fun q => ?_⟩, fun a o' z n q => P.fra.av2 a o' z n q.1, P.fra.own, P.fra.bor⟩⟩⟩
    · exact (rl.ent j e he).less fun q hq hx z => h4 ⟨j, z ▸ heldAt_of he hq hx⟩
    · subst q
      obtain ⟨o', ho'⟩ := rl0.trk _ z
      rw [h3] at ho'
      cases ho'
  | loc i =>
    unfold frz at e
    simp only at e
    split at e
    · rename_i o ho
      cases e
      obtain ⟨p, rfl, hp⟩ := P.rep
      obtain ⟨r2, q2⟩ := P.rel.release ho hp
      obtain ⟨_, u, hu, _⟩ := P.rel.heldAt (.inl (.mk' ho hp))
      have ow : ∀ a, a = p → OwnS Γ σ a ∨ H a = none := fun a z => z ▸ P.fra.ownS ⟨i, .mk' ho hp⟩
      refine ⟨_, ⟨r2, q2, ⟨P.fra.keep, P.fra.thr, fun a z n => ⟨P.fra.av1 a z n, fun q => ?_⟩, fun a o' z n q => P.fra.av2 a o' z n q.1, fun j a z => P.fra.own j a (set_own (e := .val o.d) (fun z => z) z).1, fun j a z => P.fra.bor j a (set_bor (e := .val o.d) (fun z => z) z).1⟩⟩⟩
      rcases ow a q with z' | z'
      · exact n z'
      · obtain ⟨o', ho'⟩ := rl0.trk _ z
        rw [z'] at ho'
        cases ho'
    · cases e

/-- a new object is laid; it is avoided (a list of one's own), or not (a tuple) -/
theorem alloc_fra {p : Addr} {u : HO} (hp : H p = none) (b : Bool) : Fra σ Γ av H σ Γ (fun a => av a ∨ (b = true ∧ a = p)) (upd H p u) where
  keep := fun a o h _ => by rw [upd_ne (ne_of_none h hp)]; exact h
  thr := fun a o h => ⟨o, by rw [upd_ne (ne_of_none h hp)]; exact h⟩
  av1 := fun a h _ => .inl h
  av2 := fun a o h n z => z.elim n fun q => by rw [q.2, hp] at h; cases h
  own := fun _ _ h => .inl h
  bor := fun _ _ h => h
theorem ERep.kp {p : Addr} {e : En} {x : Option (Option V)} (kp : Kp av H av' H') (h1 : ∀ q, (IsOwn (some e) ∨ IsBor (some e)) → x = some (some (V.ref q)) → H' q = H q ∧ (av q → av' q)) (h : ERep T K H av e x) : ERep T K H' av' e x := by
  cases e with
  | un => trivial
  | val d => obtain ⟨v, z1, z2⟩ := h; exact ⟨v, z1, z2.kp kp⟩
  | own o' => obtain ⟨q', z1, z2, z3⟩ := h; obtain ⟨y1, y2⟩ := h1 q' (.inl trivial) z1; exact ⟨q', z1, y2 z2, z3.kp kp y1⟩
  | bor o' => obtain ⟨q', z1, z2, z3⟩ := h; obtain ⟨y1, y2⟩ := h1 q' (.inr trivial) z1; exact ⟨q', z1, y2 z2, z3.kp kp y1⟩
theorem alloc_rel {p : Addr} {u : HO} (rl : Rel T K av Γ σ H) (hp : H p = none) (b : Bool) : Rel T K (fun a => av a ∨ (b = true ∧ a = p)) Γ σ (upd H p u) := by
  have f := alloc_fra (σ := σ) (Γ := Γ) (av := av) (u := u) hp b
  refine ⟨rl.len, fun j e he => ERep.kp (p := p) (f.kp rl) (fun q hq hx => ?_) (rl.ent j e he), rl.inj, fun a z => ?_⟩
  · obtain ⟨_, w, hw, _⟩ := rl.heldAt (heldAt_of he hq hx)
    exact ⟨upd_ne (ne_of_none hw hp), .inl⟩
  · rcases z with z | ⟨_, rfl⟩
    · obtain ⟨o, h⟩ := rl.trk a z
      exact ⟨o, by rw [upd_ne (ne_of_none h hp)]; exact h⟩
    · exact ⟨u, upd_same⟩
end
end Mi

namespace Mi
open PySem PySem.Spec L2
open PyProof.Rows hiding St

/-! ## zip and enumerate of lists and tuples in any mix -/
/-- a list (true), a tuple (false) -/
def Sq : Bool → PySem.W.Frag → Hp → Addr → List V → Prop
  | true, K, H, a, xs => SqL K H a xs
  | false, K, H, a, xs => SqT K H a xs
def ItAt : Bool → Heap → Addr → Addr → Nat → Prop
  | true, h, it, a, i => h.IsListIter it a i
  | false, h, it, a, i => h.IsTupleIter it a i
def ThAt : Bool → Heap → Addr → Array Value → Prop
  | true, h, a, its => h.IsList a its
  | false, h, a, its => h.IsTuple a its
def itObj (k : Bool) (a : Addr) : Obj := { cls := .type (if k then "list_iterator" else "tuple_iterator"), data := .fields #[.ref a, .int 0 0] }
theorem draws_sq {prog : Program} {w : World} {A : Around} (k : Bool) (hh : A.handled = none) (it a : Addr) (hne : a ≠ it) (its : Array Value) :
    Draws prog w A it [it, a] its.size (fun i v => its[i]? = some v) (fun i h => ItAt k h it a i ∧ ThAt k h a its) := by
  cases k
  · exact Draws.tuple hh it a hne its
  · exact Draws.list hh it a hne its
theorem begins_sq (k : Bool) (a : Addr) (its : Array Value) : Begins (.ref a) (itObj k a) (fun h => ThAt k h a its) := by
  cases k
  · exact begins_tuple a its
  · exact begins_list a its
theorem ItAt.keep {k : Bool} {h h' : Heap} {it a : Addr} {i : Nat} (x : ItAt k h it a i) (q : ∀ o, h.get? it = some o → h'.get? it = some o) : ItAt k h' it a i := by
  cases k
  · exact Heap.IsTupleIter.at x q
  · exact Heap.IsListIter.at x q
theorem ItAt.obj {k : Bool} {h : Heap} {it a : Addr} {i : Nat} (x : ItAt k h it a i) : ∃ o, h.get? it = some o ∧ ∀ v, o.data ≠ .cell v := by
  cases k
  all_goals
    obtain ⟨o, e, _, d⟩ := x
    exact ⟨o, e, fun v z => by rw [d] at z; cases z⟩
theorem ItAt.new {k : Bool} {h : Heap} {it a : Addr} (e : h.get? it = some (itObj k a)) : ItAt k h it a 0 := by
  cases k
  all_goals exact ⟨_, e, rfl, rfl⟩
section
variable {X : Cx} {pins : List (Addr × Obj)} {σ : St} {H : Hp} {s : Shared} {a : Addr} {xs ys : List V} {k : Bool}
theorem sq_inv (I : Inv X pins σ H s) (h : Sq k X.K H a xs) : ∃ its : List Value, Vals xs its ∧ ThAt k s.heap a its.toArray ∧ a < s.heap.objs.size := by
  cases k
  · obtain ⟨its, r, p, _⟩ := I.tuple h
    exact ⟨its, r, p, IsTup.lt p⟩
  · obtain ⟨its, r, p, _⟩ := I.list h
    exact ⟨its, r, p.isList, p.lt⟩
theorem sq_inj (I : Inv X pins σ H s) (h : Sq k X.K H a xs) (h' : Sq k X.K H a ys) : xs = ys := by
  cases k
  · exact I.tuple_inj h h'
  · exact I.list_inj h h'
end
/-- what zip of the two hands out: a new pair a turn -/
def Iz (k l : Bool) (K : PySem.W.Frag) (a b : Addr) : It where
  go := fun i H => ∃ xs ys, Sq k K H a xs ∧ Sq l K H b ys ∧ i < xs.length ∧ i < ys.length
  yld := fun i H v H' => ∃ T x y, v = .ref T ∧ H T = none ∧ H' = upd H T (.tup [x, y]) ∧ (∀ xs, Sq k K H a xs → xs[i]? = some x) ∧ ∀ ys, Sq l K H b ys → ys[i]? = some y
  stop := fun i H => ∃ xs ys, Sq k K H a xs ∧ Sq l K H b ys ∧ i = min xs.length ys.length
theorem turn_z {P : Program} {w : World} {K : PySem.W.Frag} {elts : List Expr} {kk : Nat} {tpos : Pos} (k l : Bool) (a b N : Addr) (ha : a < N) (hb : b < N) :
    Turn P w K (.Tuple elts kk tpos) (Iz k l K a b) [N + 4, N + 2, N + 3, N, N + 1] (N + 4)
      (fun i h => IsZip h (N + 4) (N + 2) (N + 3) .none ∧ IsTupOf2 h (N + 2) (.ref N) (.ref (N + 1)) ∧ (∃ x y, IsTupOf2 h (N + 3) x y) ∧ ItAt k h N a i ∧ ItAt l h (N + 1) b i) where
  mem := List.mem_cons_self
  obj := fun i h st c hc => by
    obtain ⟨hz, h2, ⟨x, y, h3⟩, h4, h5⟩ := st
    rcases (by simpa using hc : c = N + 4 ∨ c = N + 2 ∨ c = N + 3 ∨ c = N ∨ c = N + 1) with e | e | e | e | e <;> rw [e]
    · exact ⟨_, hz, fun v q => nomatch q⟩
    · exact ⟨_, h2, fun v q => nomatch q⟩
    · exact ⟨_, h3, fun v q => nomatch q⟩
    · exact h4.obj
    · exact h5.obj
  keep := fun i h h' st q => by
    obtain ⟨hz, h2, ⟨x, y, h3⟩, h4, h5⟩ := st
    exact ⟨q _ (by simp) _ hz, q _ (by simp) _ h2, ⟨x, y, q _ (by simp) _ h3⟩, h4.keep (q _ (by simp)), h5.keep (q _ (by simp))⟩
  item := by
    intro X hP hw hK hc i pins s σ H E I hf st hg
    subst hP hw hK
    obtain ⟨xs, ys, qx, qy, lx, ly⟩ := hg
    obtain ⟨us, rx, tx, la⟩ := sq_inv I qx
    obtain ⟨vs, ry, ty, lb⟩ := sq_inv I qy
    have hh : X.A.in1.handled = none := I.ok.hd hc
    have dx := draws_sq (prog := X.prog) (w := X.w) (A := X.A.in1) k hh N a (Nat.ne_of_lt ha) us.toArray
    have dy := draws_sq (prog := X.prog) (w := X.w) (A := X.A.in1) l hh (N + 1) b (Nat.ne_of_lt (Nat.lt_succ_of_lt hb)) vs.toArray
    have sep := zip_sep2 (N := N) (fp1 := [a]) (fp2 := [b]) (by simpa using ha) (by simpa using hb)
    have W := GoesN.zip2 (elts := elts) (x1 := kk) (pos := tpos) sep dx dy
    have e1 := rx.length
    have e2 := ry.length
    refine thn (W.goes i s (fun v s2 => ∃ x H', Inv X pins σ H' s2 ∧ RelV x v ∧ (Iz k l X.K a b).yld i H x H' ∧ (IsZip s2.heap (N + 4) (N + 2) (N + 3) .none ∧ IsTupOf2 s2.heap (N + 2) (.ref N) (.ref (N + 1)) ∧ (∃ x y, IsTupOf2 s2.heap (N + 3) x y) ∧ ItAt k s2.heap N a (i + 1) ∧ ItAt l s2.heap (N + 1) b (i + 1)) ∧ ∀ c ∈ [N + 4, N + 2, N + 3, N, N + 1], H' c = none) E (by simp only [List.size_toArray]; omega) ⟨st.1, st.2.1, st.2.2.1, ⟨st.2.2.2.1, tx⟩, st.2.2.2.2, ty⟩ ?_) fun r s1 ⟨v, hr, hq⟩ => ⟨v, hr, hq⟩
    intro v h' tk hY st' hk _
    obtain ⟨T, x, y, rfl, hT, hx, hy, hTo⟩ := hY
    obtain ⟨o, ho, hoc, n, hod⟩ := hTo
    obtain ⟨x', ex, rxx⟩ : ∃ x', xs[i]? = some x' ∧ RelV x' x := by
      obtain ⟨u, hu, ru⟩ := rx.get (List.getElem?_eq_getElem lx)
      have hx' : us[i]? = some x := by simpa using hx
      rw [hu] at hx'
      cases hx'
      exact ⟨_, List.getElem?_eq_getElem lx, ru⟩
    obtain ⟨y', ey, ryy⟩ : ∃ y', ys[i]? = some y' ∧ RelV y' y := by
      obtain ⟨u, hu, ru⟩ := ry.get (List.getElem?_eq_getElem ly)
      have hy' : vs[i]? = some y := by simpa using hy
      rw [hu] at hy'
      cases hy'
      exact ⟨_, List.getElem?_eq_getElem ly, ru⟩
    have hTn : H T = none := I.hok.fresh hT
    have new : ObjOk X.prog X.w (upd H T (.tup [x', y'])) h' T (.tup [x', y']) := ⟨by show 2 ≤ sizeLine; decide, [x, y], .cons rxx (.cons ryy .nil), ⟨o, ho, hoc, n, by simpa using hod⟩⟩
    have I1 : Inv X pins σ (upd H T (.tup [x', y'])) { s with heap := h', toks := tk } := I.turnedNew (ch := [N + 4, N + 2, N + 3, N, N + 1]) (fun c o hc q => hk c o (fun z => hc (by simp at z ⊢; rcases z with z | z | z | z <;> simp [z])) q) hf hT new
    refine ⟨.ref T, _, I1, rfl, ⟨T, x', y', rfl, hTn, rfl, fun zs hz => by rw [sq_inj I hz qx]; exact ex, fun zs hz => by rw [sq_inj I hz qy]; exact ey⟩, ⟨st'.1, st'.2.1, st'.2.2.1, st'.2.2.2.1.1, st'.2.2.2.2.1⟩, fun c hc => ?_⟩
    obtain ⟨oc, eo, _⟩ : ∃ o, s.heap.get? c = some o ∧ ∀ v, o.data ≠ .cell v := by
      obtain ⟨hz, h2, ⟨x, y, h3⟩, h4, h5⟩ := st
      rcases (by simpa using hc : c = N + 4 ∨ c = N + 2 ∨ c = N + 3 ∨ c = N ∨ c = N + 1) with e | e | e | e | e <;> rw [e]
      · exact ⟨_, hz, fun v q => nomatch q⟩
      · exact ⟨_, h2, fun v q => nomatch q⟩
      · exact ⟨_, h3, fun v q => nomatch q⟩
      · exact h4.obj
      · exact h5.obj
    rw [upd_ne (Nat.ne_of_lt (Nat.lt_of_lt_of_le (Heap.lt_size eo) hT))]
    exact (hf c hc).1
  done := by
    intro X hP hw hK hc i pins s σ H E I hf st hg
    subst hP hw hK
    obtain ⟨xs, ys, qx, qy, hi⟩ := hg
    obtain ⟨us, rx, tx, la⟩ := sq_inv I qx
    obtain ⟨vs, ry, ty, lb⟩ := sq_inv I qy
    have hh : X.A.in1.handled = none := I.ok.hd hc
    have dx := draws_sq (prog := X.prog) (w := X.w) (A := X.A.in1) k hh N a (Nat.ne_of_lt ha) us.toArray
    have dy := draws_sq (prog := X.prog) (w := X.w) (A := X.A.in1) l hh (N + 1) b (Nat.ne_of_lt (Nat.lt_succ_of_lt hb)) vs.toArray
    have sep := zip_sep2 (N := N) (fp1 := [a]) (fp2 := [b]) (by simpa using ha) (by simpa using hb)
    have W := GoesN.zip2 (elts := elts) (x1 := kk) (pos := tpos) sep dx dy
    have e1 := rx.length
    have e2 := ry.length
    have hi' : min us.toArray.size vs.toArray.size = i := by simp only [List.size_toArray]; omega
    refine W.stops s (fun s1 => Inv X pins σ H s1) E ?_ fun h' tk hk _ => ?_
    · rw [hi']; exact ⟨st.1, st.2.1, st.2.2.1, ⟨st.2.2.2.1, tx⟩, st.2.2.2.2, ty⟩
    · exact I.turnedL (ch := [N + 4, N + 2, N + 3, N, N + 1]) (fun c o hc q => hk c o (fun z => hc (by simp at z ⊢; rcases z with z | z | z | z <;> simp [z])) q) hf
  self := fun A i s Q E st h => wpAny_pyIter_zip st.1 h
def iZ (K : PySem.W.Frag) (ta : TA) : TI := fun σ H R => ta σ H fun vs H1 => ∃ k l a b xs ys, vs = [.ref a, .ref b] ∧ Sq k K H1 a xs ∧ Sq l K H1 b ys ∧ R (Iz k l K a b) H1
theorem pi_z {X : Cx} {e e2 : Expr} {ta : TA} {p pos tpos : Pos} {elts : List Expr} {kk : Nat} (hg : Gl X "zip") (hm : X.mg "zip" = none) (ha : PA X [e, e2] ta)
    (hs : starEach [e, e2] X.env = (false, eval e X.env) :: starEach [e2] X.env) (hpl : (backTo pos (starEach [e2] X.env)).any (·.1) = false) :
    PI X (.Tuple elts kk tpos) (.Call (.Name "zip" p) [e, e2] [] pos) (iZ X.K ta) := by
  refine ⟨fun pins s σ H R I h => ?_⟩
  refine Call_ (ld_blt I hg hm boot_zip (PyProof.Rows.callWith_type1 (thn (ha.run pos pins s σ H _ I h) fun us s1 ⟨vs, H1, I1, r1, q1⟩ => ?_) hs hpl))
  obtain ⟨k, l, a, b, xs, ys, e, qx, qy, q⟩ := q1
  subst e
  obtain ⟨u1, u2, rfl, rr1, rr2⟩ := vals2 r1
  cases rr1
  cases rr2
  obtain ⟨its, rx, tx, la⟩ := sq_inv I1 qx
  obtain ⟨jts, ry, ty, lb⟩ := sq_inv I1 qy
  refine zip_begins2 (begins_sq k a its.toArray) (begins_sq l b jts.toArray) tx ty fun h' hz h2 h3 g1 g2 hsz hk => wpAny_pyIter_zip hz ?_
  have I2 : Inv X pins σ H1 { s1 with heap := h' } := I1.kept (t' := s1.toks) hk
  refine ⟨s1.heap.objs.size + 4, _, _, _, H1, rfl, I2, turn_z k l a b s1.heap.objs.size la lb, ⟨hz, h2, ⟨_, _, h3⟩, .new g1, .new g2⟩, fun c hc => ?_, q⟩
  have hle : s1.heap.objs.size ≤ c := by
    rcases (by simpa using hc : c = s1.heap.objs.size + 4 ∨ c = s1.heap.objs.size + 2 ∨ c = s1.heap.objs.size + 3 ∨ c = s1.heap.objs.size ∨ c = s1.heap.objs.size + 1) with e | e | e | e | e <;> rw [e]
    · exact Nat.le_add_right _ _
    · exact Nat.le_add_right _ _
    · exact Nat.le_add_right _ _
    · exact Nat.le_refl _
    · exact Nat.le_add_right _ _
  exact I1.fpOk hle (I1.hok.fresh hle)
/-! enumerate -/
def Ie (k : Bool) (K : PySem.W.Frag) (a : Addr) : It where
  go := fun i H => ∃ xs, Sq k K H a xs ∧ i < xs.length
  yld := fun i H v H' => ∃ T x, v = .ref T ∧ H T = none ∧ H' = upd H T (.tup [.int (i : Nat), x]) ∧ ∀ xs, Sq k K H a xs → xs[i]? = some x
  stop := fun i H => ∃ xs, Sq k K H a xs ∧ i = xs.length
theorem turn_e {P : Program} {w : World} {K : PySem.W.Frag} {elts : List Expr} {kk : Nat} {tpos : Pos} (k : Bool) (a N : Addr) (ha : a < N) :
    Turn P w K (.Tuple elts kk tpos) (Ie k K a) [N + 1, N] (N + 1) (fun i h => (∃ old, IsEnum h (N + 1) N (0 + (i : Int)) old) ∧ ItAt k h N a i) where
  mem := List.mem_cons_self
  obj := fun i h st c hc => by
    obtain ⟨⟨old, h1⟩, h2⟩ := st
    rcases (by simpa using hc : c = N + 1 ∨ c = N) with e | e <;> rw [e]
    · exact ⟨_, h1, fun v q => nomatch q⟩
    · exact h2.obj
  keep := fun i h h' st q => by
    obtain ⟨⟨old, h1⟩, h2⟩ := st
    exact ⟨⟨old, q _ (by simp) _ h1⟩, h2.keep (q _ (by simp))⟩
  item := by
    intro X hP hw hK hc i pins s σ H E I hf st hg
    subst hP hw hK
    obtain ⟨xs, qx, lx⟩ := hg
    obtain ⟨us, rx, tx, la⟩ := sq_inv I qx
    have hh : X.A.in1.handled = none := I.ok.hd hc
    have dx := draws_sq (prog := X.prog) (w := X.w) (A := X.A.in1) k hh N a (Nat.ne_of_lt ha) us.toArray
    have W := GoesN.enumFrom (elts := elts) (x1 := kk) (pos := tpos) 0 dx (N + 1) (Nat.succ_ne_self N) (by
      intro z
      rcases List.mem_cons.mp z with z | z
      · exact Nat.succ_ne_self N z
      · exact Nat.ne_of_gt (Nat.lt_succ_of_lt ha) (List.mem_singleton.mp z)) List.mem_cons_self
    have e1 := rx.length
    refine thn (W.goes i s (fun v s2 => ∃ x H', Inv X pins σ H' s2 ∧ RelV x v ∧ (Ie k X.K a).yld i H x H' ∧ ((∃ old, IsEnum s2.heap (N + 1) N (0 + ((i + 1 : Nat) : Int)) old) ∧ ItAt k s2.heap N a (i + 1)) ∧ ∀ c ∈ [N + 1, N], H' c = none) E (by simp only [List.size_toArray]; omega) ⟨st.1, st.2, tx⟩ ?_) fun r s1 ⟨v, hr, hq⟩ => ⟨v, hr, hq⟩
    intro v h' tk hY st' hk _
    obtain ⟨T, t, x, rfl, hT, hx, hTo⟩ := hY
    obtain ⟨o, ho, hoc, n, hod⟩ := hTo
    obtain ⟨x', ex, rxx⟩ : ∃ x', xs[i]? = some x' ∧ RelV x' x := by
      obtain ⟨u, hu, ru⟩ := rx.get (List.getElem?_eq_getElem lx)
      have hx' : us[i]? = some x := by simpa using hx
      rw [hu] at hx'
      cases hx'
      exact ⟨_, List.getElem?_eq_getElem lx, ru⟩
    have hTn : H T = none := I.hok.fresh hT
    have new : ObjOk X.prog X.w (upd H T (.tup [.int (i : Nat), x'])) h' T (.tup [.int (i : Nat), x']) := ⟨by show 2 ≤ sizeLine; decide, [.int (0 + (i : Int)) t, x], .cons ⟨t, by simp⟩ (.cons rxx .nil), ⟨o, ho, hoc, n, by simpa using hod⟩⟩
    have I1 : Inv X pins σ (upd H T (.tup [.int (i : Nat), x'])) { s with heap := h', toks := tk } := I.turnedNew (ch := [N + 1, N]) (fun c o hc q => hk c o (fun z => hc z) q) hf hT new
    refine ⟨.ref T, _, I1, rfl, ⟨T, x', rfl, hTn, rfl, fun zs hz => by rw [sq_inj I hz qx]; exact ex⟩, ⟨st'.1, st'.2.1⟩, fun c hc => ?_⟩
    obtain ⟨oc, eo, _⟩ : ∃ o, s.heap.get? c = some o ∧ ∀ v, o.data ≠ .cell v := by
      obtain ⟨⟨old, h1⟩, h2⟩ := st
      rcases (by simpa using hc : c = N + 1 ∨ c = N) with e | e <;> rw [e]
      · exact ⟨_, h1, fun v q => nomatch q⟩
      · exact h2.obj
    rw [upd_ne (Nat.ne_of_lt (Nat.lt_of_lt_of_le (Heap.lt_size eo) hT))]
    exact (hf c hc).1
  done := by
    intro X hP hw hK hc i pins s σ H E I hf st hg
    subst hP hw hK
    obtain ⟨xs, qx, hi⟩ := hg
    obtain ⟨us, rx, tx, la⟩ := sq_inv I qx
    have hh : X.A.in1.handled = none := I.ok.hd hc
    have dx := draws_sq (prog := X.prog) (w := X.w) (A := X.A.in1) k hh N a (Nat.ne_of_lt ha) us.toArray
    have W := GoesN.enumFrom (elts := elts) (x1 := kk) (pos := tpos) 0 dx (N + 1) (Nat.succ_ne_self N) (by
      intro z
      rcases List.mem_cons.mp z with z | z
      · exact Nat.succ_ne_self N z
      · exact Nat.ne_of_gt (Nat.lt_succ_of_lt ha) (List.mem_singleton.mp z)) List.mem_cons_self
    have e1 := rx.length
    have hi' : us.toArray.size = i := by simp only [List.size_toArray]; omega
    refine W.stops s (fun s1 => Inv X pins σ H s1) E ?_ fun h' tk hk _ => ?_
    · rw [hi']; exact ⟨st.1, st.2, tx⟩
    · exact I.turnedL (ch := [N + 1, N]) (fun c o hc q => hk c o (fun z => hc z) q) hf
  self := fun A i s Q E st h => let ⟨⟨_, he⟩, _⟩ := st; wpAny_pyIter_enum he h
/-- enumerate of one argument, over whatever iter makes of it -/
theorem meets_enum1 {v : Value} {o : Obj} {J : Heap → Prop} (B : Begins v o J) :
    Meets (Builtin.«enumerate.__new__» ⟨[.type "enumerate", v], []⟩) (fun _ R s => J s.heap ∧
      R (.ok (.ret (.ref (s.heap.push o).objs.size))) { s with heap := (s.heap.push o).push { cls := .type "enumerate", data := .fields #[.none, .bool false, .ref s.heap.objs.size, rawInt 0, .none, .none] } }) :=
  .of_wp fun prog w A R s h => by
    obtain ⟨hp, g, d, tk, os⟩ := s
    obtain ⟨h1, h⟩ := h
    have hsub := sub_enumerate
    have q1 : ∀ {A' : Around} {E : Value → Shared → Prop} {Q : Value → Shared → Prop}, Q (.ref hp.objs.size) ⟨hp.push o, g, d, tk, os⟩ → wpAny (model prog w) A' (pyIter v) Q E ⟨hp, g, d, tk, os⟩ := fun q => B.iter prog w _ _ _ _ h1 q
    wp_walk using q1
    refine wpAny_stack_any fun st => wpAny_pure ?_
    split
    · rename_i c _ _ _ _ _
      cases (c == Value.type "enumerate") <;> (wp_walk using q1; exact ⟨_, rfl, h⟩)
    · wp_walk using q1
      exact ⟨_, rfl, h⟩
theorem enum1_begins {prog : Program} {w : World} {A : Around} {E : Value → Shared → Prop} {s : Shared} {v : Value} {o : Obj} {J : Heap → Prop} {Q : Value → Shared → Prop} (B : Begins v o J) (h1 : J s.heap)
    (h : ∀ h', IsEnum h' (s.heap.objs.size + 1) s.heap.objs.size 0 .none → h'.get? s.heap.objs.size = some o → (∀ b o, s.heap.get? b = some o → h'.get? b = some o) → Q (.ref (s.heap.objs.size + 1)) { s with heap := h' }) :
    wpAny (model prog w) A (call (.type "enumerate") [v]) Q E s := by
  refine callType_new F.called_enumerate (by decide) (F.typeCall_enumerate_1 _) (F.newCall_enumerate_1 _) (fun obj => F.args_object_init_2 obj _) F.entry_enumerate_new (meets_enum1 B) ⟨h1, ?_⟩
  have hz : (s.heap.push o).objs.size = s.heap.objs.size + 1 := Heap.size_push ..
  have he : IsEnum ((s.heap.push o).push { cls := .type "enumerate", data := .fields #[.none, .bool false, .ref s.heap.objs.size, rawInt 0, .none, .none] }) (s.heap.objs.size + 1) s.heap.objs.size 0 .none := by
    have z := Heap.get?_push_size (s.heap.push o) (o := { cls := .type "enumerate", data := .fields #[.none, .bool false, .ref s.heap.objs.size, rawInt 0, .none, .none] }) rfl
    rw [hz] at z
    exact z
  show _ ∧ _
  rw [hz]
  exact ⟨⟨_, he, rfl⟩, h _ he (Heap.get?_push_of_some _ (Heap.get?_push_size _ B.free)) fun b o x => Heap.get?_push_of_some _ (Heap.get?_push_of_some _ x)⟩
def iE (K : PySem.W.Frag) (ta : TA) : TI := fun σ H R => ta σ H fun vs H1 => ∃ k a xs, vs = [.ref a] ∧ Sq k K H1 a xs ∧ R (Ie k K a) H1
theorem pi_e {X : Cx} {e : Expr} {ta : TA} {p pos tpos : Pos} {elts : List Expr} {kk : Nat} (hg : Gl X "enumerate") (hm : X.mg "enumerate" = none) (ha : PA X [e] ta) (hs : starEach [e] X.env = [(false, eval e X.env)]) :
    PI X (.Tuple elts kk tpos) (.Call (.Name "enumerate" p) [e] [] pos) (iE X.K ta) := by
  refine ⟨fun pins s σ H R I h => ?_⟩
  refine Call_ (ld_blt I hg hm boot_enumerate (PyProof.Rows.callWith_type1 (thn (ha.run pos pins s σ H _ I h) fun us s1 ⟨vs, H1, I1, r1, q1⟩ => ?_) hs rfl))
  obtain ⟨k, a, xs, e, qx, q⟩ := q1
  subst e
  obtain ⟨u1, rfl, rr1⟩ := vals1 r1
  cases rr1
  obtain ⟨its, rx, tx, la⟩ := sq_inv I1 qx
  refine enum1_begins (begins_sq k a its.toArray) tx fun h' he g1 hk => wpAny_pyIter_enum he ?_
  have I2 : Inv X pins σ H1 { s1 with heap := h' } := I1.kept (t' := s1.toks) hk
  refine ⟨s1.heap.objs.size + 1, _, _, _, H1, rfl, I2, turn_e k a s1.heap.objs.size la, ⟨⟨.none, by simpa using he⟩, .new g1⟩, fun c hc => ?_, q⟩
  have hle : s1.heap.objs.size ≤ c := by
    rcases (by simpa using hc : c = s1.heap.objs.size + 1 ∨ c = s1.heap.objs.size) with e | e <;> rw [e]
    · exact Nat.le_add_right _ _
    · exact Nat.le_refl _
  exact I1.fpOk hle (I1.hok.fresh hle)
end Mi

namespace Mi
open PySem L2

/-! ## what operators and built-ins make of data -/
abbrev line : Nat := 16777216
mutual
/-- == of plain data -/
def deq : D → D → Bool
  | .non, .non => true
  | .bl a, .bl b => a == b
  | .bl a, .int j => (if a then 1 else 0) == j
  | .int i, .bl b => i == (if b then 1 else 0)
  | .int i, .int j => i == j
  | .str x, .str y => x == y
  | .lst xs, .lst ys => deqs xs ys
  | .lst xs, .scr ys => deqs xs ys
  | .scr xs, .lst ys => deqs xs ys
  | .scr xs, .scr ys => deqs xs ys
  | .tup xs, .tup ys => deqs xs ys
  | _, _ => false
def deqs : List D → List D → Bool
  | [], [] => true
  | x :: xs, y :: ys => deq x y && deqs xs ys
  | _, _ => false
end
mutual
/-- no dict, no instance within, at most so deep -/
def plainN : Nat → D → Bool
  | _, .non => true
  | _, .bl _ => true
  | _, .int _ => true
  | _, .str x => x.cps.all (· < 0x110000)
  | n + 1, .lst xs => plainsN n xs
  | n + 1, .scr xs => plainsN n xs
  | n + 1, .tup xs => plainsN n xs
  | _, _ => false
def plainsN : Nat → List D → Bool
  | _, [] => true
  | n, x :: xs => plainN n x && plainsN n xs
end
abbrev plain (d : D) : Bool := plainN 60 d
def vl (d : D) : Option R := some (.val d)
def nl (ds : List D) : Option R := some (.fr (.lst ds))

def mulOk (i j : Int) : Prop := i.natAbs.log2 + j.natAbs.log2 < 1000000
instance (i j : Int) : Decidable (mulOk i j) := inferInstanceAs (Decidable (_ < _))
def divOk (j : Int) : Prop := (0 < j ∧ j.natAbs.log2 < 9000) ∨ (j ≠ 0 ∧ j.natAbs < 1073741824)
instance (j : Int) : Decidable (divOk j) := inferInstanceAs (Decidable (_ ∨ _))
def powOk (i j : Int) : Prop := 0 ≤ j ∧ ((j ≤ 1000000 ∧ i.natAbs < 18446744073709551616) ∨ (j ≤ 1000 ∧ i.natAbs.log2 < 100000))
instance (i j : Int) : Decidable (powOk i j) := inferInstanceAs (Decidable (_ ∧ _))
def shlOk (i j : Int) : Prop := 0 ≤ j ∧ j ≤ 1000000 ∧ i.natAbs < 18446744073709551616
instance (i j : Int) : Decidable (shlOk i j) := inferInstanceAs (Decidable (_ ∧ _))
def b2i (b : Bool) : Int := if b then 1 else 0

/-- a text so many times -/
def strRep (n : Nat) (x : Str) : Str := ⟨(List.replicate n x.cps).foldl (fun a b => a ++ b) #[]⟩
def bop : Operator → D → D → Option R
  | .Add, .int i, .int j => vl (.int (i + j))
  | .Add, .str x, .str y => if x.length + y.length ≤ line then vl (.str (x ++ y)) else none
  | .Add, .tup xs, .tup ys => if xs.length + ys.length ≤ line then vl (.tup (xs ++ ys)) else none
  | .Add, .lst xs, .lst ys => if xs.length + ys.length ≤ line then nl (xs ++ ys) else none
  | .Sub, .int i, .int j => vl (.int (i - j))
  | .Mult, .int i, .int j => if mulOk i j then vl (.int (i * j)) else none
  | .Mult, .lst xs, .int k => if k < 16777216 ∧ -16777216 < k ∧ xs.length * k.toNat ≤ line then nl (List.replicate k.toNat xs).flatten else none
  | .Mult, .tup xs, .int k => if xs.isEmpty = false ∧ 1 ≤ k ∧ k ≤ 1000 ∧ xs.length ≤ 1000 then vl (.tup (List.replicate k.toNat xs).flatten) else none
  | .Mult, .str x, .int k => if k < 16777216 ∧ -16777216 < k ∧ x.length * k.toNat ≤ line then vl (.str (strRep k.toNat x)) else none
  | .FloorDiv, .int i, .int j => if divOk j then vl (.int (i.fdiv j)) else none
  | .Mod, .int i, .int j => if j ≠ 0 then vl (.int (i.fmod j)) else none
  | .Pow, .int i, .int j => if powOk i j then vl (.int (i ^ j.toNat)) else none
  | .LShift, .int i, .int j => if shlOk i j then vl (.int (i * 2 ^ j.toNat)) else none
  | .RShift, .int i, .int j => if 0 ≤ j then vl (.int (i / 2 ^ j.toNat)) else none
  | .BitAnd, .int i, .int j => vl (.int (Builtin.bitAnd i j))
  | .BitOr, .int i, .int j => vl (.int (Builtin.bitOr i j))
  | _, _, _ => none

/-- x op= y -/
def aop : Operator → D → D → Option D
  | .Add, .int i, .int j => some (.int (i + j))
  | .Sub, .int i, .int j => some (.int (i - j))
  | .Add, .str x, .str y => if x.length + y.length ≤ line then some (.str (x ++ y)) else none
  | _, _, _ => none
def flat : D → Bool
  | .non => true
  | .bl _ => true
  | .int _ => true
  | .str _ => true
  | _ => false
def isIn (x : D) (xs : List D) : Bool := xs.any fun y => deq y x
def flats (xs : List D) : Bool := xs.all flat
/-- the items of a list, a tuple -/
def items : D → Option (List D)
  | .lst xs => some xs
  | .tup xs => some xs
  | .scr xs => some xs
  | _ => none
def lstOf : D → Option (List D)
  | .lst xs => some xs
  | _ => none
def itemsL : D → Option (List D)
  | .lst xs => some xs
  | .scr xs => some xs
  | _ => none
def strLt (x y : Str) : Bool := decide (x.cps.toList < y.cps.toList)
def intsD : List D → Option (List Int)
  | [] => some []
  | .int i :: ds => (intsD ds).map (i :: ·)
  | _ :: _ => none
def blsD : List D → Option (List Bool)
  | [] => some []
  | .bl i :: ds => (blsD ds).map (i :: ·)
  | _ :: _ => none
def strsD : List D → Option (List Str)
  | [] => some []
  | .str i :: ds => (strsD ds).map (i :: ·)
  | _ :: _ => none
/-- scalars that == tells without a look at their signs -/
def scl : D → D → Bool
  | .non, .non => true
  | .non, .int _ => true
  | .int _, .non => true
  | .non, .bl _ => true
  | .bl _, .non => true
  | .non, .str _ => true
  | .str _, .non => true
  | .int _, .int _ => true
  | .bl _, .bl _ => true
  | .str _, .str _ => true
  | .int _, .str _ => true
  | .str _, .int _ => true
  | .bl _, .str _ => true
  | .str _, .bl _ => true
  | _, _ => false
def isNon : D → Bool
  | .non => true
  | _ => false
def cop : CmpOp → D → D → Option Bool
  | .Eq, a, b => if scl a b || (plain a && plain b) then some (deq a b) else none
  | .NotEq, a, b => if scl a b || (plain a && plain b) then some (!deq a b) else none
  | .Lt, .int i, .int j => some (decide (i < j))
  | .LtE, .int i, .int j => some (decide (i ≤ j))
  | .Gt, .int i, .int j => some (decide (j < i))
  | .GtE, .int i, .int j => some (decide (j ≤ i))
  | .Lt, .str x, .str y => some (decide (x.cps.toList < y.cps.toList))
  | .LtE, .str x, .str y => some (!decide (y.cps.toList < x.cps.toList))
  | .Gt, .str x, .str y => some (decide (y.cps.toList < x.cps.toList))
  | .GtE, .str x, .str y => some (!decide (x.cps.toList < y.cps.toList))
  | .Is, a, .non => some (isNon a)
  | .IsNot, a, .non => some (!isNon a)
  | .Is, .bl a, .bl b => some (a == b)
  | .IsNot, .bl a, .bl b => some (!(a == b))
  | .In, .str x, .str y => some (!(Builtin.Str.occurrences y x 0 y.length 1).isEmpty)
  | .NotIn, .str x, .str y => some (!(!(Builtin.Str.occurrences y x 0 y.length 1).isEmpty))
  | .In, x, .lst xs => if flat x && flats xs then some (isIn x xs) else none
  | .NotIn, x, .lst xs => if flat x && flats xs then some (!isIn x xs) else none
  | .In, x, .tup xs => if flat x && flats xs then some (isIn x xs) else none
  | .NotIn, x, .tup xs => if flat x && flats xs then some (!isIn x xs) else none
  | _, _, _ => none
/-- truth -/
def tru : D → Option Bool
  | .non => some false
  | .bl b => some b
  | .int i => some (i != 0)
  | .str x => if x.length ≤ line then some (x.length != 0) else none
  | .lst xs => some (!xs.isEmpty)
  | .tup xs => some (!xs.isEmpty)
  | _ => none
/-- an index, from either end -/
def ixn (n : Nat) (k : Int) : Option Nat := if 0 ≤ k then (if k.toNat < n then some k.toNat else none) else if 0 ≤ k + n then some (k + n).toNat else none
def atD (ds : List D) (k : Int) : Option D := (ixn ds.length k).bind fun j => ds[j]?
/-- a[i] -/
def idxD : D → D → Option D
  | .lst xs, .int k => atD xs k
  | .tup xs, .int k => atD xs k
  | .scr xs, .int k => atD xs k
  | .str z, .int k => if z.length ≤ line then ((ixn z.length k).bind fun j => z.cps.toList[j]?).map fun c => .str ⟨#[c]⟩ else none
  | _, _ => none
/-- a[lo:hi] -/
def cutD (xs : List D) (lo hi : Option Int) : List D := (xs.drop (HT.sIx xs.length 0 lo)).take (HT.sIx xs.length xs.length hi - HT.sIx xs.length 0 lo)
def slcD (lo hi : Option Int) : D → Option R
  | .lst xs => nl (cutD xs lo hi)
  | .scr xs => nl (cutD xs lo hi)
  | .tup xs => vl (.tup (cutD xs lo hi))
  | .str z => if z.length ≤ line then vl (.str (cutS z lo hi)) else none
  | _ => none
/-- a[lo:hi:k], 0 < k -/
def stepD (xs : List D) (lo hi : Option Int) (k : Int) : List D := (sliceRange (sliceBounds lo hi (some k) xs.length).1 (sliceBounds lo hi (some k) xs.length).2.1 (sliceBounds lo hi (some k) xs.length).2.2).filterMap (xs[·]?)
def slxD (lo hi : Option Int) (k : Int) : D → Option R
  | .lst xs => if k ≠ 0 then nl (stepD xs lo hi k) else none
  | .scr xs => if k ≠ 0 then nl (stepD xs lo hi k) else none
  | _ => none
/-- kinds that isinstance is asked of -/
inductive Ty where
  | int | bool | str | tuple | list | dict
  deriving DecidableEq
def isTy : D → Ty → Option Bool
  | .int _, .int => some true
  | .bl _, .int => some true
  | .bl _, .bool => some true
  | .str _, .str => some true
  | .tup _, .tuple => some true
  | .lst _, .list => some true
  | .dic _ _, .dict => some true
  | .scr _, _ => none
  | .ins _ _, _ => none
  | _, _ => some false
inductive Bi where
  | len | abs | max2 | min2 | max1 | min1 | int | bool | str | sum | sum2 | all | any | list | tuple | sorted | repr
  deriving DecidableEq
def maxI : List Int → Int
  | [] => 0
  | [x] => x
  | x :: xs => let m := maxI xs; if m > x then m else x
def minI : List Int → Int
  | [] => 0
  | [x] => x
  | x :: xs => let m := minI xs; if m < x then m else x
/-! data as the library knows it -/
def keyPy : Key → PyData
  | .inl i => .int i
  | .inr x => .str x
/-- a dict of flat things -/
def dicFlat : D → Bool
  | .dic _ ds => flats ds
  | _ => false
mutual
def pyOf : D → PyData
  | .non => .none
  | .bl b => .bool b
  | .int i => .int i
  | .str x => .str x
  | .lst ds => .list (pysOf ds)
  | .scr ds => .list (pysOf ds)
  | .tup ds => .tuple (pysOf ds)
  | .dic ks ds => .dict ((ks.map keyPy).zip (pysOf ds))
  | _ => .none
def pysOf : List D → List PyData
  | [] => []
  | d :: ds => pyOf d :: pysOf ds
end
def sortI (ns : List Int) : List Int := ns.mergeSort fun a b => decide (a ≤ b)
def sortT (ns : List Str) : List Str := ns.mergeSort fun a b => decide (a.cps.toList ≤ b.cps.toList)
def bi : Bi → List D → Option R
  | .len, [.lst xs] => vl (.int xs.length)
  | .len, [.tup xs] => vl (.int xs.length)
  | .len, [.scr xs] => vl (.int xs.length)
  | .len, [.str x] => if x.length ≤ line then vl (.int x.length) else none
  | .abs, [.int i] => vl (.int (if i < 0 then -i else i))
  | .max2, [.int i, .int j] => vl (.int (if j > i then j else i))
  | .min2, [.int i, .int j] => vl (.int (if j < i then j else i))
  | .max1, [.lst xs] => (intsD xs).bind fun ns => if ns = [] then none else vl (.int (maxI ns))
  | .min1, [.lst xs] => (intsD xs).bind fun ns => if ns = [] then none else vl (.int (minI ns))
  | .int, [.int i] => vl (.int i)
  | .int, [.bl b] => vl (.int (b2i b))
  | .bool, [.int i] => vl (.bl (i != 0))
  | .bool, [.bl b] => vl (.bl b)
  | .str, [.int i] => if i.natAbs.log2 < 1920 then vl (.str (toString i)) else none
  | .sum, [.lst xs] => (intsD xs).bind fun ns => vl (.int ns.sum)
  | .sum, [.tup xs] => (intsD xs).bind fun ns => vl (.int ns.sum)
  | .sum2, [.lst xs, .int c] => (intsD xs).bind fun ns => vl (.int (c + ns.sum))
  | .all, [.lst xs] => (blsD xs).bind fun bs => vl (.bl (bs.all id))
  | .any, [.lst xs] => (blsD xs).bind fun bs => vl (.bl (bs.any id))
  | .list, [.lst xs] => nl xs
  | .list, [.tup xs] => nl xs
  | .list, [.scr xs] => nl xs
  | .tuple, [.lst xs] => vl (.tup xs)
  | .tuple, [.tup xs] => vl (.tup xs)
  | .sorted, [.lst xs] => if xs.length < 64 then (match intsD xs with
    | some ns => nl ((sortI ns).map .int)
    | none => (strsD xs).bind fun ys => nl ((sortT ys).map .str)) else none
  | .repr, [d] => if (plain d || dicFlat d) && (pyOf d).showable && decide ((pyOf d).shown.length ≤ line) then vl (.str (pyOf d).shown) else none
  | _, _ => none
/-- methods that change nothing -/
inductive Mt where
  | join | index | tindex
  deriving DecidableEq
/-- of what kind it must be -/
def mthK : Mt → Option D → Bool
  | .join, _ => true
  | .index, some (.lst _) => true
  | .tindex, some (.tup _) => true
  | _, _ => false
/-- the first place of a thing -/
def idxOfD (x : D) (xs : List D) : Option Nat := xs.findIdx? fun y => deq y x
def mth : Mt → D → List D → Option R
  | .join, .str z, [.lst xs] => (strsD xs).bind fun ys => if (ys.map Str.length).sum + ys.length * z.length ≤ 16777216 then vl (.str (Txt.join z ys)) else none
  | .index, .lst xs, [y] => if flat y && flats xs then (idxOfD y xs).bind fun j => vl (.int j) else none
  | .tindex, .tup xs, [.str y] => (strsD xs).bind fun ys => (ys.findIdx? fun z => z == y).bind fun j => vl (.int (j : Nat))
  | _, _, _ => none
/-- methods that change what a name owns: the answer, the new thing -/
inductive Mm where
  | append | insert | extend | pop | pop0 | reverse
  deriving DecidableEq
def mmt : Mm → OD → List D → Option (D × OD)
  | .append, .lst xs, [y] => if xs.length < line then some (.non, .lst (xs ++ [y])) else none
  | .insert, .lst xs, [.int k, y] => if xs.length < line ∧ 0 ≤ k ∧ k < 16777216 then some (.non, .lst (xs.take k.toNat ++ y :: xs.drop k.toNat)) else none
  | .extend, .lst xs, [.lst ys] => if xs.length + ys.length ≤ line then some (.non, .lst (xs ++ ys)) else none
  | .pop, .lst xs, [.int k] => if 0 ≤ k ∧ k < 16777216 then xs[k.toNat]?.map fun d => (d, .lst (xs.eraseIdx k.toNat)) else none
  | .pop0, .lst xs, [] => xs[xs.length - 1]?.map fun d => (d, .lst xs.dropLast)
  | .reverse, .lst xs, [] => some (.non, .lst xs.reverse)
  | _, _, _ => none

/-! ## the small language -/
inductive In where
  | val (d : D)
  | own (o : OD)
  | bor (o : OD)
inductive Out where
  | non
  | val (d : D)
  | own (o : OD)
inductive Rt where
  | val (d : D)
  | fr (o : OD)
abbrev Sem1 := List In → Option (Rt × List Out)
structure Ctx where
  ft : Nat → Sem1
  gl : Nat → D
  wf : Nat
  /-- defs run by a call of another kind: an __init__, a __len__ -/
  fi : Nat → Sem1 := fun _ _ => none
  /-- written dicts of the text's top -/
  kd : Nat → List (Str × D) := fun _ => []
/-- targets -/
inductive Tg where
  | nm (i : Nat)
  | tup (ts : List Tg)
  | star (pre : List Nat) (i : Nat)
inductive Src where
  | arg (i : Nat)
  | con (d : D)
/-- a written dict: keys all unlike -/
def dspOk (ks : List Key) (ds : List D) : Bool := decide (ks.length = ds.length) && decide (ks.Nodup) && decide (ks.length ≤ 15)
mutual
inductive E where
  | var (i : Nat)
  | con (d : D)
  | glb (g : Nat)
  | bin (op : Operator) (a b : E)
  | neg (a : E)
  | not_ (a : E)
  | cmp (op : CmpOp) (a b : E)
  | chn (o1 o2 : CmpOp) (a b c : E)
  | and_ (a b : E)
  | or_ (a b : E)
  | ite (c a b : E)
  | tup (es : Es)
  | lst (es : Es)
  | idx (a i : E)
  | slc (a : E) (lo hi : Eo)
  | slx (a : E) (lo hi : Eo) (k : E)
  | emp
  | dsp (ks : List Key) (es : Es)
  | cal (f : Nat) (acc : List Bool) (es : Es) (acc2 : List Bool) (ks : Es) (src : List Src)
  | bi (b : Bi) (es : Es)
  | mth (m : Mt) (a : E) (es : Es)
  | mmt (m : Mm) (a : E) (es : Es)
  | isi (a : E) (ts : List Ty)
  | cpr (own : List Nat) (t : Tg) (it : It) (c : Eo) (e : E)
  | fld (a : E) (c j : Nat)
  | mcl (c f : Nat) (acc : List Bool) (a : E) (es : Es) (src : List Src)
  | mk (c f : Nat) (acc : List Bool) (es : Es) (acc2 : List Bool) (ks : Es) (src : List Src)
  | kget (g : Nat) (a : E)
  | lno (c f : Nat) (a : E)
  | kgd (g : Nat) (a : E) (d : D)
  | kin (g : Nat) (n : Bool) (a : E)
  | dget (a k : E) (d : D)
  | trev (a : E)
inductive Es where
  | nil
  | cons (e : E) (es : Es)
inductive Eo where
  | non
  | som (e : E)
inductive It where
  | seq (e : E)
  | rng1 (a : E)
  | rng2 (a b : E)
  | rng3 (a b c : E)
  | zip (a b : E)
  | enu (a : E)
  | rev (a : E)
end

def geti (Γ : G) (i : Nat) : Option R := match Γ[i]? with
  | some (.val d) => some (.val d)
  | some (.own _) => some (.loc i)
  | some (.bor _) => some (.loc i)
  | _ => none
/-- lend: what a loop walks is not written meanwhile -/
def lend (Γ : G) : R → G × Option Nat
  | .loc i => match Γ[i]? with
    | some (.own o) => (Γ.set i (.bor o), some i)
    | _ => (Γ, none)
  | _ => (Γ, none)
def back (Γ : G) : List Nat → G
  | [] => Γ
  | i :: is => match Γ[i]? with
    | some (.bor o) => back (Γ.set i (.own o)) is
    | _ => back Γ is
def wipeG (Γ : G) : List Nat → G
  | [] => Γ
  | i :: is => (wipeG Γ is).set i .un
/-- the entries of these slots as in the elder -/
def restG (old Γ : G) : List Nat → G
  | [] => Γ
  | i :: is => match old[i]? with
    | some e => (restG old Γ is).set i e
    | none => restG old Γ is
mutual
/-- data to a target -/
def put : Tg → D → G → Option G
  | .nm i, d, Γ => if i < Γ.length then some (Γ.set i (.val d)) else none
  | .tup ts, .tup ds, Γ => puts ts ds Γ
  | .tup ts, .lst ds, Γ => puts ts ds Γ
  | .star pre i, .tup ds, Γ => if pre.length ≤ ds.length ∧ ds.length ≤ 16384 ∧ i < Γ.length then (putn pre (ds.take pre.length) Γ).map fun Γ' => Γ'.set i (.own (.lst (ds.drop pre.length))) else none
  | .star pre i, .lst ds, Γ => if pre.length ≤ ds.length ∧ ds.length ≤ 16384 ∧ i < Γ.length then (putn pre (ds.take pre.length) Γ).map fun Γ' => Γ'.set i (.own (.lst (ds.drop pre.length))) else none
  | _, _, _ => none
def puts : List Tg → List D → G → Option G
  | [], [], Γ => some Γ
  | t :: ts, d :: ds, Γ => (put t d Γ).bind fun Γ' => puts ts ds Γ'
  | _, _, _ => none
def putn : List Nat → List D → G → Option G
  | [], [], Γ => some Γ
  | i :: is, d :: ds, Γ => if i < Γ.length then putn is ds (Γ.set i (.val d)) else none
  | _, _, _ => none
end
/-- a result to a target -/
def asg : Tg → R → G → Option G
  | .nm i, .fr o, Γ => if i < Γ.length then some (Γ.set i (.own o)) else none
  | t, r, Γ => (frz Γ r).bind fun (d, Γ') => put t d Γ'
/-- arguments as the def takes them -/
def toIn (Γ : G) : R → Option (In × G)
  | .val d => some (.val d, Γ)
  | .fr o => some (.own o, Γ)
  | .loc i => match Γ[i]? with
    | some (.own o) => some (.own o, Γ.set i .un)
    | some (.bor o) => some (.bor o, Γ)
    | _ => none
def toIns (Γ : G) : List R → Option (List In × G)
  | [] => some ([], Γ)
  | r :: rs => (toIn Γ r).bind fun (i, Γ1) => (toIns Γ1 rs).map fun (is, Γ2) => (i :: is, Γ2)
def Out.en : Out → En
  | .non => .un
  | .val d => .val d
  | .own o => .own o
/-- what was owned comes back -/
def backs : List R → List In → List Out → G → G
  | .loc i :: rs, .own _ :: is, o :: os, Γ => backs rs is os (Γ.set i o.en)
  | _ :: rs, _ :: is, _ :: os, Γ => backs rs is os Γ
  | _, _, _, Γ => Γ
def Rt.r : Rt → R
  | .val d => .val d
  | .fr o => .fr o
def pick (rs : List R) : List Src → Option (List R)
  | [] => some []
  | .arg i :: ss => rs[i]?.bind fun r => (pick rs ss).map (r :: ·)
  | .con d :: ss => (pick rs ss).map (.val d :: ·)
/-- a call of a def, its arguments known -/
def callT (ft : Nat → Sem1) (f : Nat) (src : List Src) (rs : List R) (Γ : G) : Option (R × G) :=
  (pick rs src).bind fun rs' => (toIns Γ rs').bind fun (is, Γ2) => (ft f is).bind fun (r, os) => some (r.r, backs rs' is os Γ2)
/-- a field of an instance -/
def fldD (c j : Nat) : D → Option D
  | .ins c' ds => if c' = c then ds[j]? else none
  | _ => none
def isIns (c : Nat) : D → Bool
  | .ins c' _ => decide (c' = c)
  | _ => false
/-- a new instance, by its __init__ -/
def makeT (fi : Nat → Sem1) (c f : Nat) (src : List Src) (rs : List R) (Γ : G) : Option (R × G) :=
  (pick (.fr (.ins c []) :: rs) src).bind fun rs' => (toIns Γ rs').bind fun (is, Γ2) => (fi f is).bind fun (r, os) => match r, os with
    | .val .non, .own (.ins c' ds) :: _ => if c' = c then some (.fr (.ins c' ds), backs rs' is os Γ2) else none
    | _, _ => none
/-- what __len__ may give -/
def lenI : R → Option R
  | .val (.int n) => if 0 ≤ n ∧ n < 9223372036854775808 then some (.val (.int n)) else none
  | _ => none
/-- what a written dict has at a text -/
def kfind (kvs : List (Str × D)) (x : Str) : Option D := (kvs.find? fun p => p.1 == x).map (·.2)
def kgetD (kvs : List (Str × D)) (x : Str) : D := (kfind kvs x).getD .non
/-- the key that a thing is -/
def keyD : D → Option Key
  | .int i => some (.inl i)
  | .str x => some (.inr x)
  | _ => none
def isDicO : Option D → Bool
  | some (.dic _ _) => true
  | _ => false
/-- what a dict has at a key, or what is told -/
def dgetD : D → D → D → Option D
  | .dic ks ds, y, d => (keyD y).map fun q => (((ks.zip ds).find? fun kv => decide (kv.1 = q)).map (·.2)).getD d
  | _, _, _ => none
/-- a field is set -/
def fldS (c j : Nat) (d : D) : OD → Option OD
  | .ins c' ds => if c' = c then (if j < ds.length then some (.ins c' (ds.set j d)) else if j = ds.length then some (.ins c' (ds ++ [d])) else none) else none
  | _ => none
def rangeL (lo : Int) (n : Nat) (c : Int) : List D := (List.range n).map fun (i : Nat) => .int (lo + (i : Int) * c)
def oneC (z : Str) : List D := z.cps.toList.map fun c => .str ⟨#[c]⟩
/-- what a for walks -/
def walked : D → Option (List D)
  | .lst xs => some xs
  | .tup xs => some xs
  | .scr xs => some xs
  | .str z => if z.length ≤ line then some (oneC z) else none
  | _ => none
/-- a comprehension's turns -/
def cprL (step : D → G → Option (Option D × G)) : List D → List D → G → Option (List D × G)
  | [], acc, Γ => some (acc, Γ)
  | d :: ds, acc, Γ => (step d Γ).bind fun (y, Γ') => cprL step ds (match y with | some y => acc ++ [y] | none => acc) Γ'
def rngOk (i : Int) : Prop := -4611686018427387904 ≤ i ∧ i < 4611686018427387904
instance (i : Int) : Decidable (rngOk i) := inferInstanceAs (Decidable (_ ∧ _))
def rng3n (i j c : Int) : Nat := if i < j then ((j - i - 1) / c + 1).toNat else 0
def zipD : List D → List D → List D
  | x :: xs, y :: ys => .tup [x, y] :: zipD xs ys
  | _, _ => []
def enuD (k : Nat) : List D → List D
  | [] => []
  | x :: xs => .tup [.int k, x] :: enuD (k + 1) xs
def accR (acc : List Bool) (Γ : G) (r : R) : Option (R × G) := match acc with
  | false :: _ => (frz Γ r).map fun (d, Γ2) => (R.val d, Γ2)
  | _ => some (r, Γ)
section
variable (C : Ctx)
mutual
def ev : E → G → Option (R × G)
  | .var i, Γ => (geti Γ i).map fun r => (r, Γ)
  | .con d, Γ => some (.val d, Γ)
  | .glb g, Γ => some (.val (C.gl g), Γ)
  | .bin op a b, Γ => (ev a Γ).bind fun (ra, Γ1) => (ev b Γ1).bind fun (rb, Γ2) => (look Γ2 ra).bind fun x => (look Γ2 rb).bind fun y => (bop op x y).map fun r => (r, Γ2)
  | .neg a, Γ => (ev a Γ).bind fun (ra, Γ1) => match ra with
    | .val (.int i) => some (.val (.int (-i)), Γ1)
    | _ => none
  | .not_ a, Γ => (ev a Γ).bind fun (ra, Γ1) => (look Γ1 ra).bind fun x => (tru x).map fun b => (.val (.bl (!b)), Γ1)
  | .cmp op a b, Γ => (ev a Γ).bind fun (ra, Γ1) => (ev b Γ1).bind fun (rb, Γ2) => (look Γ2 ra).bind fun x => (look Γ2 rb).bind fun y => (cop op x y).map fun r => (.val (.bl r), Γ2)
  | .chn o1 o2 a b c, Γ => (ev a Γ).bind fun (ra, Γ1) => (ev b Γ1).bind fun (rb, Γ2) => (look Γ2 ra).bind fun x => (look Γ2 rb).bind fun y => (cop o1 x y).bind fun t =>
      if t then (ev c Γ2).bind fun (rc, Γ3) => (look Γ3 rb).bind fun y' => (look Γ3 rc).bind fun z => (cop o2 y' z).map fun r => (.val (.bl r), Γ3) else some (.val (.bl false), Γ2)
  | .and_ a b, Γ => (ev a Γ).bind fun (ra, Γ1) => match ra with
    | .val (.bl true) => ev b Γ1
    | .val (.bl false) => some (.val (.bl false), Γ1)
    | _ => none
  | .or_ a b, Γ => (ev a Γ).bind fun (ra, Γ1) => match ra with
    | .val (.bl false) => ev b Γ1
    | .val (.bl true) => some (.val (.bl true), Γ1)
    | _ => none
  | .ite c a b, Γ => (evT c Γ).bind fun (t, Γ1) => if t then ev a Γ1 else ev b Γ1
  | .tup es, Γ => (evF es Γ).map fun (ds, Γ1) => (.val (.tup ds), Γ1)
  | .lst es, Γ => (evF es Γ).map fun (ds, Γ1) => (.fr (.lst ds), Γ1)
  | .idx a i, Γ => (ev a Γ).bind fun (ra, Γ1) => (ev i Γ1).bind fun (ri, Γ2) => (look Γ2 ra).bind fun x => (look Γ2 ri).bind fun k => (idxD x k).map fun d => (.val d, Γ2)
  | .slc a lo hi, Γ => (ev a Γ).bind fun (ra, Γ1) => (evO lo Γ1).bind fun (l, Γ2) => (evO hi Γ2).bind fun (h, Γ3) => (look Γ3 ra).bind fun x => (slcD l h x).map fun r => (r, Γ3)
  | .slx a lo hi k, Γ => (ev a Γ).bind fun (ra, Γ1) => (evO lo Γ1).bind fun (l, Γ2) => (evO hi Γ2).bind fun (h, Γ3) => (ev k Γ3).bind fun (rk, Γ4) => (look Γ4 ra).bind fun x => match rk with
    | .val (.int k) => (slxD l h k x).map fun r => (r, Γ4)
    | _ => none
  | .emp, Γ => some (.fr (.dic [] []), Γ)
  | .dsp ks es, Γ => (evF es Γ).bind fun (ds, Γ1) => if dspOk ks ds = true then some (.fr (.dic ks ds), Γ1) else none
  | .cal f acc es acc2 ks src, Γ => (evA es acc Γ).bind fun (rs, Γ1) => (evA ks acc2 Γ1).bind fun (qs, Γ2) => (callT C.ft f src (rs ++ qs) Γ2)
  | .bi b es, Γ => (evA es [] Γ).bind fun (rs, Γ1) => (rs.mapM (look Γ1)).bind fun ds => (bi b ds).map fun r => (r, Γ1)
  | .mth m a es, Γ => (ev a Γ).bind fun (ra, Γ1) => if mthK m (look Γ1 ra) = true then (evA es [] Γ1).bind fun (rs, Γ2) => (look Γ2 ra).bind fun x => (rs.mapM (look Γ2)).bind fun ds => (mth m x ds).map fun r => (r, Γ2) else none
  | .mmt m a es, Γ => (ev a Γ).bind fun (ra, Γ1) => ((look Γ1 ra).bind lstOf).bind fun _ => (evF es Γ1).bind fun (ds, Γ2) => match ra with
    | .loc i => match Γ2[i]? with
      | some (.own o) => (mmt m o ds).map fun (d, o') => (.val d, Γ2.set i (.own o'))
      | _ => none
    | _ => none
  | .isi a ts, Γ => (ev a Γ).bind fun (ra, Γ1) => (look Γ1 ra).bind fun x => (ts.mapM (isTy x)).map fun bs => (.val (.bl (bs.any id)), Γ1)
  | .cpr own t it c e, Γ => (evI it Γ).bind fun (ds, brs, Γ1) => if line < ds.length then none else
      (cprL (fun d Γ2 => (put t d Γ2).bind fun Γ3 => (evC c Γ3).bind fun (b, Γ4) =>
        if b then (ev e Γ4).bind fun (r, Γ5) => (frz Γ5 r).map fun (d, Γ6) => (some d, wipeG Γ6 own) else some (none, wipeG Γ4 own)) ds [] (wipeG Γ1 own)).map fun (acc, Γ7) =>
      (.fr (.lst acc), back (restG Γ1 Γ7 own) brs)
  | .fld a c j, Γ => (ev a Γ).bind fun (ra, Γ1) => (look Γ1 ra).bind fun x => (fldD c j x).map fun d => (.val d, Γ1)
  | .mcl c f acc a es src, Γ => (ev a Γ).bind fun (ra, Γ1) => (look Γ1 ra).bind fun x => if isIns c x = true then (accR acc Γ1 ra).bind fun (ra', Γ2) => (evA es acc.tail Γ2).bind fun (rs, Γ3) => callT C.ft f src (ra' :: rs) Γ3 else none
  | .mk c f acc es acc2 ks src, Γ => (evA es acc Γ).bind fun (rs, Γ1) => (evA ks acc2 Γ1).bind fun (qs, Γ2) => makeT C.fi c f src (rs ++ qs) Γ2
  | .kget g a, Γ => (ev a Γ).bind fun (ra, Γ1) => match ra with
    | .val (.str x) => some (.val (kgetD (C.kd g) x), Γ1)
    | _ => none
  | .lno c f a, Γ => (ev a Γ).bind fun (ra, Γ1) => (frz Γ1 ra).bind fun (x, Γ2) => if isIns c x = true then (callT C.fi f [.arg 0] [.val x] Γ2).bind fun (r, Γ3) => (lenI r).map fun r' => (r', Γ3) else none
  | .kgd g a d, Γ => (ev a Γ).bind fun (ra, Γ1) => match ra with
    | .val (.str x) => some (.val ((kfind (C.kd g) x).getD d), Γ1)
    | _ => none
  | .kin g n a, Γ => (ev a Γ).bind fun (ra, Γ1) => match ra with
    | .val (.str x) => some (.val (.bl (n != (kfind (C.kd g) x).isSome)), Γ1)
    | _ => none
  | .dget a k d, Γ => (ev a Γ).bind fun (ra, Γ1) => if isDicO (look Γ1 ra) = true then (ev k Γ1).bind fun (rk, Γ2) => (look Γ2 ra).bind fun x => (look Γ2 rk).bind fun y => (dgetD x y d).map fun z => (.val z, Γ2) else none
  | .trev a, Γ => (ev a Γ).bind fun (ra, Γ1) => (look Γ1 ra).bind fun x => match x with
    | .tup xs => some (.val (.tup xs.reverse), Γ1)
    | _ => none
/-- a clause's test -/
def evC : Eo → G → Option (Bool × G)
  | .non, Γ => some (true, Γ)
  | .som c, Γ => evT c Γ
/-- a test -/
def evT : E → G → Option (Bool × G)
  | .and_ a b, Γ => (evT a Γ).bind fun (t, Γ1) => if t then evT b Γ1 else some (false, Γ1)
  | .or_ a b, Γ => (evT a Γ).bind fun (t, Γ1) => if t then some (true, Γ1) else evT b Γ1
  | .not_ a, Γ => (evT a Γ).map fun (t, Γ1) => (!t, Γ1)
  | .var i, Γ => (geti Γ i).bind fun r => (look Γ r).bind fun d => (tru d).map fun b => (b, Γ)
  | .con d, Γ => (tru d).map fun b => (b, Γ)
  | .cmp op a b, Γ => (ev a Γ).bind fun (ra, Γ1) => (ev b Γ1).bind fun (rb, Γ2) => (look Γ2 ra).bind fun x => (look Γ2 rb).bind fun y => (cop op x y).map fun r => (r, Γ2)
  | .chn o1 o2 a b c, Γ => (ev a Γ).bind fun (ra, Γ1) => (ev b Γ1).bind fun (rb, Γ2) => (look Γ2 ra).bind fun x => (look Γ2 rb).bind fun y => (cop o1 x y).bind fun t =>
      if t then (ev c Γ2).bind fun (rc, Γ3) => (look Γ3 rb).bind fun y' => (look Γ3 rc).bind fun z => (cop o2 y' z).map fun r => (r, Γ3) else some (false, Γ2)
  | .cal f acc es acc2 ks src, Γ => (evA es acc Γ).bind fun (rs, Γ1) => (evA ks acc2 Γ1).bind fun (qs, Γ2) => (callT C.ft f src (rs ++ qs) Γ2).bind fun (r, Γ3) => (look Γ3 r).bind fun d => (tru d).map fun b => (b, Γ3)
  | .bi b es, Γ => (evA es [] Γ).bind fun (rs, Γ1) => (rs.mapM (look Γ1)).bind fun ds => (bi b ds).bind fun r => (look Γ1 r).bind fun d => (tru d).map fun b => (b, Γ1)
  | .isi a ts, Γ => (ev a Γ).bind fun (ra, Γ1) => (look Γ1 ra).bind fun x => (ts.mapM (isTy x)).map fun bs => (bs.any id, Γ1)
  | .idx a i, Γ => (ev a Γ).bind fun (ra, Γ1) => (ev i Γ1).bind fun (ri, Γ2) => (look Γ2 ra).bind fun x => (look Γ2 ri).bind fun k => (idxD x k).bind fun d => (tru d).map fun b => (b, Γ2)
  | .bin op a b, Γ => (ev a Γ).bind fun (ra, Γ1) => (ev b Γ1).bind fun (rb, Γ2) => (look Γ2 ra).bind fun x => (look Γ2 rb).bind fun y => (bop op x y).bind fun r => (look Γ2 r).bind fun d => (tru d).map fun b => (b, Γ2)
  | .mcl c f acc a es src, Γ => ((ev a Γ).bind fun (ra, Γ1) => (look Γ1 ra).bind fun x => if isIns c x = true then (accR acc Γ1 ra).bind fun (ra', Γ2) => (evA es acc.tail Γ2).bind fun (rs, Γ3) => callT C.ft f src (ra' :: rs) Γ3 else none).bind fun (r, Γ3) => (look Γ3 r).bind fun d => (tru d).map fun b => (b, Γ3)
  | .kin g n a, Γ => (ev a Γ).bind fun (ra, Γ1) => match ra with
    | .val (.str x) => some (n != (kfind (C.kd g) x).isSome, Γ1)
    | _ => none
  | _, _ => none
/-- written items, as data -/
def evF : Es → G → Option (List D × G)
  | .nil, Γ => some ([], Γ)
  | .cons e es, Γ => (ev e Γ).bind fun (r, Γ1) => (frz Γ1 r).bind fun (d, Γ2) => (evF es Γ2).map fun (ds, Γ3) => (d :: ds, Γ3)
/-- arguments; what is not taken over is frozen (of a built-in: nothing is) -/
def evA : Es → List Bool → G → Option (List R × G)
  | .nil, _, Γ => some ([], Γ)
  | .cons e es, acc, Γ => (ev e Γ).bind fun (r, Γ1) => (accR acc Γ1 r).bind fun (r', Γ2) => (evA es acc.tail Γ2).map fun (rs, Γ3) => (r' :: rs, Γ3)
def evO : Eo → G → Option (Option Int × G)
  | .non, Γ => some (none, Γ)
  | .som e, Γ => (ev e Γ).bind fun (r, Γ1) => match r with
    | .val (.int i) => some (some i, Γ1)
    | _ => none
/-- what is walked: its items, what is lent -/
def evI : It → G → Option (List D × List Nat × G)
  | .seq e, Γ => (ev e Γ).bind fun (r, Γ1) => (look Γ1 r).bind fun x => (walked x).map fun ds => (ds, (lend Γ1 r).2.toList, (lend Γ1 r).1)
  | .rng1 a, Γ => (ev a Γ).bind fun (r, Γ1) => match r with
    | .val (.int j) => if rngOk j ∧ j ≤ 16777216 then some (rangeL 0 j.toNat 1, [], Γ1) else none
    | _ => none
  | .rng2 a b, Γ => (ev a Γ).bind fun (r, Γ1) => (ev b Γ1).bind fun (q, Γ2) => match r, q with
    | .val (.int i), .val (.int j) => if rngOk i ∧ rngOk j ∧ j - i ≤ 16777216 then some (rangeL i (j - i).toNat 1, [], Γ2) else none
    | _, _ => none
  | .rng3 a b c, Γ => (ev a Γ).bind fun (r, Γ1) => (ev b Γ1).bind fun (q, Γ2) => (ev c Γ2).bind fun (p, Γ3) => match r, q, p with
    | .val (.int i), .val (.int j), .val (.int k) => if -1000000 < i ∧ i < 1000000 ∧ -1000000 < j ∧ j < 1000000 ∧ 0 < k ∧ k < 1000000 then some (rangeL i (rng3n i j k) k, [], Γ3) else none
    | _, _, _ => none
  | .zip a b, Γ => (ev a Γ).bind fun (r, Γ1) => (ev b Γ1).bind fun (q, Γ2) => (look Γ2 r).bind fun x => (look Γ2 q).bind fun y => (items x).bind fun xs => (items y).map fun ys =>
      (zipD xs ys, (lend Γ2 r).2.toList ++ (lend (lend Γ2 r).1 q).2.toList, (lend (lend Γ2 r).1 q).1)
  | .enu a, Γ => (ev a Γ).bind fun (r, Γ1) => (look Γ1 r).bind fun x => (items x).map fun ds => (enuD 0 ds, (lend Γ1 r).2.toList, (lend Γ1 r).1)
  | .rev a, Γ => (ev a Γ).bind fun (r, Γ1) => (look Γ1 r).bind fun x => (itemsL x).map fun ds => (ds.reverse, (lend Γ1 r).2.toList, (lend Γ1 r).1)
end
end

/-! ## statements -/
mutual
inductive S where
  | asg (t : Tg) (e : E)
  | aug (i : Nat) (op : Operator) (e : E)
  | setx (b i : E) (e : E)
  | augx (b i : E) (op : Operator) (e : E)
  | setf (b : E) (c j : Nat) (e : E)
  | par (i j : Nat) (a b : E)
  | exp (e : E)
  | ret (e : E)
  | retn
  | ife (c : E) (a b : Ss)
  | for_ (t : Tg) (it : It) (b : Ss)
  | whl (c : E) (b : Ss)
  | brk
  | cnt
  | pas
  | bad
inductive Ss where
  | nil
  | cons (s : S) (ss : Ss)
end
inductive Fl where
  | nx
  | bk
  | ct
  | rt (r : R)
def setD (k : D) (d : D) : OD → Option OD
  | .lst xs => match k with
    | .int k => (ixn xs.length k).map fun j => .lst (xs.set j d)
    | _ => none
  | _ => none
def forL (turn : D → G → Option (Fl × G)) : List D → G → Option (Fl × G)
  | [], Γ => some (.nx, Γ)
  | d :: ds, Γ => (turn d Γ).bind fun (f, Γ') => match f with
    | .nx => forL turn ds Γ'
    | .ct => forL turn ds Γ'
    | .bk => some (.nx, Γ')
    | .rt r => some (.rt r, Γ')
def whlL (test : G → Option (Bool × G)) (turn : G → Option (Fl × G)) : Nat → G → Option (Fl × G)
  | 0, _ => none
  | n + 1, Γ => (test Γ).bind fun (b, Γ1) => if b then (turn Γ1).bind fun (f, Γ') => match f with
      | .nx => whlL test turn n Γ'
      | .ct => whlL test turn n Γ'
      | .bk => some (.nx, Γ')
      | .rt r => some (.rt r, Γ')
    else some (.nx, Γ1)
section
variable (C : Ctx)
mutual
def ex : S → G → Option (Fl × G)
  | .asg t e, Γ => (ev C e Γ).bind fun (r, Γ1) => (asg t r Γ1).map fun Γ2 => (.nx, Γ2)
  | .aug i op e, Γ => match Γ[i]? with
    | some (.val x) => (ev C e Γ).bind fun (r, Γ1) => (look Γ1 r).bind fun y => (aop op x y).bind fun d => if i < Γ1.length then some (.nx, Γ1.set i (.val d)) else none
    | _ => none
  | .setx b i e, Γ => (ev C e Γ).bind fun (r, Γ1) => (frz Γ1 r).bind fun (d, Γ2) => (ev C b Γ2).bind fun (rb, Γ3) => (ev C i Γ3).bind fun (ri, Γ4) => (look Γ4 ri).bind fun k => match rb with
    | .loc j => match Γ4[j]? with
      | some (.own o) => (setD k d o).map fun o' => (.nx, Γ4.set j (.own o'))
      | _ => none
    | _ => none
  | .augx b i op e, Γ => (ev C b Γ).bind fun (rb, Γ1) => (ev C i Γ1).bind fun (ri, Γ2) => (look Γ2 rb).bind fun o => (look Γ2 ri).bind fun k => (idxD o k).bind fun x =>
      (ev C e Γ2).bind fun (r, Γ3) => (look Γ3 r).bind fun y => (aop op x y).bind fun d => match rb with
      | .loc j => match Γ3[j]? with
        | some (.own o) => (setD k d o).map fun o' => (.nx, Γ3.set j (.own o'))
        | _ => none
      | _ => none
  | .setf b c j e, Γ => (ev C e Γ).bind fun (r, Γ1) => (frz Γ1 r).bind fun (d, Γ2) => (ev C b Γ2).bind fun (rb, Γ3) => match rb with
    | .loc i => match Γ3[i]? with
      | some (.own o) => (fldS c j d o).map fun o' => (.nx, Γ3.set i (.own o'))
      | _ => none
    | _ => none
  | .par i j a b, Γ => (ev C a Γ).bind fun (ra, Γ1) => (frz Γ1 ra).bind fun (x, Γ2) => (ev C b Γ2).bind fun (rb, Γ3) => (frz Γ3 rb).bind fun (y, Γ4) => if i < Γ4.length ∧ j < Γ4.length ∧ i ≠ j then some (.nx, (Γ4.set i (.val x)).set j (.val y)) else none
  | .exp e, Γ => (ev C e Γ).map fun (_, Γ1) => (.nx, Γ1)
  | .ret e, Γ => (ev C e Γ).map fun (r, Γ1) => (.rt r, Γ1)
  | .retn, Γ => some (.rt (.val .non), Γ)
  | .ife c a b, Γ => (evT C c Γ).bind fun (t, Γ1) => if t then exs a Γ1 else exs b Γ1
  | .for_ t it b, Γ => (evI C it Γ).bind fun (ds, brs, Γ1) => (forL (fun d Γ2 => (put t d Γ2).bind fun Γ3 => exs b Γ3) ds Γ1).map fun (f, Γ4) => (f, back Γ4 brs)
  | .whl c b, Γ => whlL (fun Γ1 => evT C c Γ1) (fun Γ1 => exs b Γ1) C.wf Γ
  | .brk, Γ => some (.bk, Γ)
  | .cnt, Γ => some (.ct, Γ)
  | .pas, Γ => some (.nx, Γ)
  | .bad, _ => none
def exs : Ss → G → Option (Fl × G)
  | .nil, Γ => some (.nx, Γ)
  | .cons s ss, Γ => (ex s Γ).bind fun (f, Γ1) => match f with
    | .nx => exs ss Γ1
    | f => some (f, Γ1)
end
end
/-! ## defs -/
structure Df where
  par : List Bool
  loc : Nat
  body : Ss
def In.en : In → En
  | .val d => .val d
  | .own o => .own o
  | .bor o => .bor o
def parOk : List Bool → List In → Bool
  | [], [] => true
  | _ :: ps, .val _ :: is => parOk ps is
  | true :: ps, _ :: is => parOk ps is
  | _, _ => false
def endR (n : Nat) (Γ : G) : R → Option (Rt × G)
  | .val d => some (.val d, Γ)
  | .fr o => some (.fr o, Γ)
  | .loc i => match Γ[i]? with
    | some (.own o) => if i < n then some (.val o.d, Γ.set i (.val o.d)) else some (.fr o, Γ.set i .un)
    | _ => none
def outs : List In → G → List Out
  | [], _ => []
  | .own _ :: is, e :: Γ => (match e with | .own o => .own o | .val d => .val d | _ => .non) :: outs is Γ
  | _ :: is, _ :: Γ => .non :: outs is Γ
  | is, [] => is.map fun _ => .non
def runD (C : Ctx) (f : Df) : Sem1 := fun is =>
  if parOk f.par is then
    (exs C f.body (is.map In.en ++ List.replicate f.loc .un)).bind fun (fl, Γ) => match fl with
      | .nx => some (.val .non, outs is Γ)
      | .rt r => (endR f.par.length Γ r).map fun (q, Γ') => (q, outs is Γ')
      | _ => none
  else none
/-- all defs of a text, so many calls within one another; behind it: one less -/
def run2 (gl : Nat → D) (wf : Nat) (fs : Nat → Df) (kd : Nat → List (Str × D)) : Nat → (Nat → Sem1) × (Nat → Sem1)
  | 0 => (fun _ _ => none, fun _ _ => none)
  | k + 1 => (fun f => runD { ft := (run2 gl wf fs kd k).1, gl := gl, wf := wf, fi := (run2 gl wf fs kd k).2, kd := kd } (fs f), (run2 gl wf fs kd k).1)
def run (gl : Nat → D) (wf : Nat) (fs : Nat → Df) (kd : Nat → List (Str × D)) (k : Nat) : Nat → Sem1 := (run2 gl wf fs kd k).1
end Mi

namespace Mi
open PySem PySem.Spec L2
open PyProof.Rows hiding St

/-! ## what operators make, at the values -/
/-- a made thing: old data, a new tuple, a new list -/
inductive Res (T : Cls2) (K : PySem.W.Frag) (H : Hp) (av : Av) : R → V → Hp → Av → Prop
  | val {d : D} {v : V} : Rep T K H av d v → Res T K H av (.val d) v H av
  | tup {ds : List D} {xs : List V} {p : Addr} {ob : Obj} : ob.dict = none → H p = none → Reps T K H av ds xs → Res T K H av (.val (.tup ds)) (.ref p) (upd H p (.frz ob (.tup xs))) (fun a => av a ∨ (false = true ∧ a = p))
  | lst {ds : List D} {xs : List V} {p : Addr} : H p = none → Reps T K H av ds xs → Res T K H av (.fr (.lst ds)) (.ref p) (upd H p (.lst xs)) (fun a => av a ∨ (true = true ∧ a = p))
section
variable {T : Cls2} {K : PySem.W.Frag} {H H0 H' : Hp} {av av0 av' : Av} {Γ Γ0 : G} {σ : St} {r : R} {v : V}
theorem Rel.post0 (rl : Rel T K av Γ σ H) (fr : Fra σ Γ0 av0 H0 σ Γ av H) {d : D} (h : Rep T K H av d v) : Post T K σ av0 Γ0 H0 Γ (.val d) v H av := ⟨rl, h, fr⟩
theorem Res.post (rl0 : Rel T K av0 Γ0 σ H0) (rl : Rel T K av Γ σ H) (fr : Fra σ Γ0 av0 H0 σ Γ av H) (h : Res T K H av r v H' av') : Post T K σ av0 Γ0 H0 Γ r v H' av' := by
  cases h with
  | val h => exact ⟨rl, h, fr⟩
  | @tup ds xs p ob hd hp h =>
    have f := alloc_fra (σ := σ) (Γ := Γ) (av := av) (u := .frz ob (.tup xs)) hp false
    refine ⟨alloc_rel rl hp false, ?_, fr.trans rl0 f⟩
    show Rep T K _ _ (.tup ds) (.ref p)
    unfold Rep
    exact ⟨p, xs, rfl, .inl ⟨ob, upd_same, hd⟩, h.kp (f.kp rl)⟩
  | @lst ds xs p hp h =>
    have f := alloc_fra (σ := σ) (Γ := Γ) (av := av) (u := .lst xs) hp true
    refine ⟨alloc_rel rl hp true, ⟨p, rfl, ⟨xs, upd_same, h.kp (f.kp rl)⟩, .inr ⟨rfl, rfl⟩, fr.free hp, fun z => ?_⟩, fr.trans rl0 f⟩
    obtain ⟨_, u, hu, _⟩ := rl.held z
    rw [hp] at hu
    cases hu
end
abbrev QR := R → V → Hp → Av → Prop
/-- a rule of two values by data -/
def r2D (T : Cls2) (K : PySem.W.Frag) (f : D → D → Option R) : R2 := fun v u H Q => ∃ av x y r, VRep T K H av x v ∧ VRep T K H av y u ∧ f x y = some r ∧ ∀ w H' av', Res T K H av r w H' av' → Q w H'
theorem line_le : (line : Nat) ≤ sizeLine := by rw [sizeLine_eq]; decide
theorem line_eq : (sizeLine : Nat) = line := sizeLine_eq
theorem Reps.replicate {T : Cls2} {K : PySem.W.Frag} {H : Hp} {av : Av} {ds : List D} {xs : List V} (h : Reps T K H av ds xs) : ∀ n : Nat, Reps T K H av (List.replicate n ds).flatten (List.replicate n xs).flatten
  | 0 => .nil
  | n + 1 => by
    rw [List.replicate_succ, List.replicate_succ, List.flatten_cons, List.flatten_cons]
    exact h.append (Reps.replicate h n)
theorem vint {T : Cls2} {K : PySem.W.Frag} {H : Hp} {av : Av} {i : Int} {v : V} (h : VRep T K H av (.int i) v) : v = .int i := by
  have z : Rep T K H av (.int i) v := h
  unfold Rep at z
  exact z
theorem vstr {T : Cls2} {K : PySem.W.Frag} {H : Hp} {av : Av} {i : Str} {v : V} (h : VRep T K H av (.str i) v) : v = .str i := by
  have z : Rep T K H av (.str i) v := h
  unfold Rep at z
  exact z
theorem vbl {T : Cls2} {K : PySem.W.Frag} {H : Hp} {av : Av} {i : Bool} {v : V} (h : VRep T K H av (.bl i) v) : v = .bl i := by
  have z : Rep T K H av (.bl i) v := h
  unfold Rep at z
  exact z
theorem vnon {T : Cls2} {K : PySem.W.Frag} {H : Hp} {av : Av} {v : V} (h : VRep T K H av .non v) : v = .non := by
  have z : Rep T K H av .non v := h
  unfold Rep at z
  exact z
theorem vtup {T : Cls2} {K : PySem.W.Frag} {H : Hp} {av : Av} {ds : List D} {v : V} (h : VRep T K H av (.tup ds) v) : ∃ a xs, v = .ref a ∧ SqX K H a xs ∧ Reps T K H av ds xs := by
  have z : Rep T K H av (.tup ds) v := h
  unfold Rep at z
  exact z
theorem vlst {T : Cls2} {K : PySem.W.Frag} {H : Hp} {av : Av} {ds : List D} {v : V} (h : VRep T K H av (.lst ds) v) : ∃ a xs, v = .ref a ∧ H a = some (.lst xs) ∧ Reps T K H av ds xs := h
theorem vscr {T : Cls2} {K : PySem.W.Frag} {H : Hp} {av : Av} {ds : List D} {v : V} (h : VRep T K H av (.scr ds) v) : ∃ a xs, v = .ref a ∧ SqL K H a xs ∧ Reps T K H av ds xs := by
  have z : Rep T K H av (.scr ds) v := h
  unfold Rep at z
  obtain ⟨a, xs, e, h1, h2⟩ := z
  refine ⟨a, xs, e, ?_, h2⟩
  rcases h1 with ⟨h1, _⟩ | h1
  · exact .inl h1
  · exact .inr h1
theorem rint {T : Cls2} {K : PySem.W.Frag} {H : Hp} {av : Av} {i : Int} : Rep T K H av (.int i) (.int i) := by unfold Rep; rfl
theorem rstr {T : Cls2} {K : PySem.W.Frag} {H : Hp} {av : Av} {i : Str} : Rep T K H av (.str i) (.str i) := by unfold Rep; rfl
theorem rbl {T : Cls2} {K : PySem.W.Frag} {H : Hp} {av : Av} {i : Bool} : Rep T K H av (.bl i) (.bl i) := by unfold Rep; rfl
theorem rnon {T : Cls2} {K : PySem.W.Frag} {H : Hp} {av : Av} : Rep T K H av .non .non := by unfold Rep; rfl
theorem rtup {T : Cls2} {K : PySem.W.Frag} {H : Hp} {av : Av} {ds : List D} {a : Addr} {xs : List V} (h : SqX K H a xs) (r : Reps T K H av ds xs) : Rep T K H av (.tup ds) (.ref a) := by unfold Rep; exact ⟨a, xs, rfl, h, r⟩

theorem op_powW {X : Cx} : OpR X (binaryOp .Pow) (rI powOk fun i j => .int (i ^ j.toNat)) := opI fun i j _ _ _ _ _ hc q => by
  refine pow_int hc.1 ?_ q
  rcases hc.2 with ⟨h1, h2⟩ | ⟨h1, h2⟩
  · exact bits_mul_le h2 hc.1 h1
  · have hb : Builtin.Int.intBits i ≤ 100000 := by
      unfold Builtin.Int.intBits
      split <;> omega
    have h3 : (Builtin.Int.intBits i : Int) * j ≤ 100000 * j := Int.mul_le_mul_of_nonneg_right (by omega) hc.1
    omega
theorem foldl_nil : ∀ n : Nat, (List.replicate n (#[] : Array Nat)).foldl (fun a b => a ++ b) #[] = #[]
  | 0 => rfl
  | n + 1 => by rw [List.replicate_succ, List.foldl_cons]; exact foldl_nil n
theorem foldl_size {c : Array Nat} : ∀ (n : Nat) (a : Array Nat), ((List.replicate n c).foldl (fun a b => a ++ b) a).size = a.size + c.size * n
  | 0, a => by simp
  | n + 1, a => by
    rw [List.replicate_succ, List.foldl_cons, foldl_size n, Array.size_append, Nat.mul_succ]
    omega
theorem strRep_len (n : Nat) (x : Str) : (strRep n x).length = x.length * n := by
  show ((List.replicate n x.cps).foldl (fun a b => a ++ b) #[]).size = x.cps.size * n
  rw [foldl_size]
  simp
theorem op_rep_str {X : Cx} : OpR X (binaryOp .Mult) fun x y H Q => ∃ i k, x = V.str i ∧ y = V.int k ∧ k < 16777216 ∧ -16777216 < k ∧ i.length * k.toNat ≤ 16777216 ∧ Q (V.str (strRep k.toNat i)) H := by
  intro pins s σ H x y v u Q I rv ru ⟨i, k, e1, e2, h1, h2, h3, q⟩
  subst e1 e2
  obtain ⟨t, rfl⟩ := rv
  obtain ⟨t', rfl⟩ := ru
  refine PySem.P.mul_str ?_ ?_ ?_ ?_
  · simp only [Bool.or_eq_false_iff, decide_eq_false_iff_not]
    omega
  · intro hk hn hgt
    have hb : (2 ^ 63 - 1 : Int) / k ≥ 2 ^ 63 / 16777216 - 1 := by
      have : (2 ^ 63 - 1 : Int) / 16777216 ≤ (2 ^ 63 - 1) / k := by
        refine Int.le_ediv_of_mul_le (by omega) ?_
        have : (2 ^ 63 - 1 : Int) / 16777216 * k ≤ (2 ^ 63 - 1 : Int) / 16777216 * 16777216 := Int.mul_le_mul_of_nonneg_left (by omega) (by decide)
        omega
      omega
    have h4 : i.length ≤ i.length * k.toNat := Nat.le_mul_of_pos_right _ (by omega)
    omega
  · intro _ _
    show decide (_ > sizeLine) = false
    rw [sizeLine_eq]
    exact decide_eq_false (by omega)
  · split
    · have : k.toNat = 0 := by omega
      rw [this] at q
      exact ⟨by decide, .str _, H, I.tok _, ⟨_, rfl⟩, q⟩
    · split
      · rename_i hk h
        have : strRep k.toNat i = i := by
          rw [Bool.or_eq_true] at h
          rcases h with h | h
          · have : k = 1 := eq_of_beq h
            subst this
            obtain ⟨c⟩ := i
            show Str.mk (#[] ++ c) = _
            rw [Array.empty_append]
          · have h0 : i.length = 0 := eq_of_beq h
            obtain ⟨c⟩ := i
            have : c = #[] := Array.eq_empty_of_size_eq_zero h0
            subst this
            unfold strRep
            rw [foldl_nil]
        rw [this] at q
        exact ⟨.str _, H, I, ⟨_, rfl⟩, q⟩
      · exact ⟨by
          have := strRep_len k.toNat i
          unfold strRep at this
          rw [this, sizeLine_eq]
          exact h3, .str _, H, I.tok _, ⟨_, rfl⟩, q⟩
/-- t + u, the new tuple's object known -/
theorem op_catX {X : Cx} : OpR X (binaryOp .Add) (fun x y H Q => ∃ a b xs ys, x = .ref a ∧ y = .ref b ∧ SqT X.K H a xs ∧ SqT X.K H b ys ∧ xs.length + ys.length ≤ sizeLine ∧
    (xs = [] → Q (.ref b) H) ∧ (xs ≠ [] → ys = [] → Q (.ref a) H) ∧ (xs ≠ [] → ys ≠ [] → ∀ p (ob : Obj), ob.dict = none → H p = none → Q (.ref p) (upd H p (.frz ob (.tup (xs ++ ys)))))) := by
  intro pins s σ H x y v u Q I rx ry h
  obtain ⟨a, b, xs, ys, rfl, rfl, ha, hb, hz, q0, q1, q2⟩ := h
  cases rx
  cases ry
  obtain ⟨its, r1, p1, _⟩ := I.tuple ha
  obtain ⟨its2, r2, p2, _⟩ := I.tuple hb
  by_cases hx : xs = []
  · subst hx
    cases r1
    exact cat_tup0 p1 p2 ⟨.ref b, H, I, rfl, q0 rfl⟩
  · refine HT.cat_tup p1 p2 (fun z => hx (r1.nil_iff.mp z)) (fun z => ⟨.ref a, H, I, rfl, q1 hx (r2.nil_iff.mp z)⟩) (fun z => ?_) (by rw [← r1.length, ← r2.length]; exact hz)
    refine ⟨.ref s.heap.objs.size, _, I.laid (t' := s.toks) (o := .frz _ (.tup (xs ++ ys))) (fun b ob q => Heap.get?_push_of_some _ q) (Nat.le_refl _) ⟨Heap.get?_push_size _ rfl, ?_⟩, rfl, q2 hx (fun w => z (r2.nil_iff.mpr w)) _ _ rfl (I.hok.fresh (Nat.le_refl _))⟩
    exact ⟨by rw [List.length_append]; exact hz, _, r1.append r2, IsTup.new _ _⟩
theorem tuple_mul1 (l : Addr) (items : Array Value) (n : Nat) (dd : Option Addr) (sl : Array (Option Value)) (x : Int) (u : Tok) (c0 : (decide (x < -(2 ^ 63)) || decide (x ≥ 2 ^ 63)) = false) (c1 : (items.isEmpty || x == 1) = true) :
    Meets (Builtin.«tuple.__mul__» ⟨[.ref l, .int x u], []⟩) (fun _ R s => s.heap.get? l = some { cls := .type "tuple", dict := dd, data := .seq items n, slots := sl } ∧ R (.ok (.ret (Value.ref l))) s) :=
  .of_wp fun prog w A R s h => by
    obtain ⟨hp, g, d, tk, os⟩ := s
    obtain ⟨hl, h⟩ := h
    have f1 := AutoSeq1.idx_int
    wp_walk using wpAny_loadPart' hl
    repeat (first
      | (refine wpAny_ite_false (decide_eq_false (by rw [c0]; exact Bool.false_ne_true)) ?_; wp_walk using wpAny_loadPart' hl)
      | (refine wpAny_ite_true (decide_eq_true (by rw [c1])) ?_; wp_walk using wpAny_loadPart' hl))
    exact ⟨_, rfl, h⟩
/-- a tuple so many times, once at least -/
theorem op_repTX {X : Cx} : OpR X (binaryOp .Mult) (fun x y H Q => ∃ l k xs, x = .ref l ∧ y = .int k ∧ SqT X.K H l xs ∧ xs ≠ [] ∧ 1 ≤ k ∧ k ≤ 1000 ∧ xs.length ≤ 1000 ∧ (k = 1 → Q (.ref l) H) ∧ ∀ p (ob : Obj), ob.dict = none → H p = none → Q (.ref p) (upd H p (.frz ob (.tup (List.replicate k.toNat xs).flatten)))) := by
  intro pins s σ H x y v u Q I rx ry h
  obtain ⟨l, k, xs, rfl, rfl, hT, hne, h1, h2, hz, q1, q⟩ := h
  cases rx
  obtain ⟨t, rfl⟩ := ry
  obtain ⟨its, r, ⟨⟨cls, dd, data, sl⟩, ho, hc, n, hd⟩, hs⟩ := I.tuple hT
  simp only at hc hd
  subst hc hd
  have hle : its.length = xs.length := r.length.symm
  have hn : its ≠ [] := fun e => hne (by
    rw [e] at hle
    exact List.eq_nil_of_length_eq_zero hle.symm)
  have hi : its.toArray.isEmpty = false := by
    cases its with
    | nil => exact absurd rfl hn
    | cons a b => rfl
  have hsz0 : its.toArray.size = xs.length := by rw [List.size_toArray, hle]
  have hm : ((its.toArray.size : Nat) : Int) * k ≤ 1000000 := by
    rw [hsz0]
    have a1 : ((xs.length : Nat) : Int) * k ≤ 1000 * k := Int.mul_le_mul_of_nonneg_right (by omega) (by omega)
    omega
  have flen : (List.replicate k.toNat its).flatten.length ≤ sizeLine := by
    rw [PyProof.Rows.lm_len_rep_flat, hle, sizeLine_eq]
    have a1 : k.toNat * xs.length ≤ 1000 * 1000 := Nat.mul_le_mul (by omega) hz
    omega
  have c0 : (decide (k < -(2 ^ 63)) || decide (k ≥ 2 ^ 63)) = false := by
    rw [decide_eq_false (by omega), decide_eq_false (by omega)] <;> rfl
  by_cases hk1 : k = 1
  · subst hk1
    have c1 : (its.toArray.isEmpty || (1 : Int) == 1) = true := by rw [hi]; rfl
    refine wpAny_binaryOp_repeat_ref (T := "tuple") (U := "int") (by decide) ⟨_, ho, rfl⟩ (fun s' => typeIs_int s' 1 t) noFill_tuple_mul F.fills_int_mul F.slot_int_rmul repeat_tuple F.slot_int_index.lookup
      (call_meets F.slot_int_rmul (typeIs_int s 1 t) F.entry_int_rmul (F.args_int_rmul_2 _ _) (int_rmul_tuple 1 t l its.toArray n dd sl)
        ⟨ho, rfl, ⟨_, ho, rfl⟩, call_meets F.slot_tuple_mul ⟨_, ho, rfl⟩ F.entry_tuple_mul (F.args_tuple_mul_2 _ _) (tuple_mul1 l its.toArray n dd sl 1 t c0 c1) ⟨ho, ?_⟩⟩)
    exact ⟨.ref l, H, I, rfl, q1 rfl⟩
  have c1 : (its.toArray.isEmpty || k == 1) = false := by
    rw [hi, Bool.false_or]
    exact beq_eq_false_iff_ne.mpr hk1
  have c2 : (decide (k ≤ 0) || its.toArray.isEmpty) = false := by
    rw [hi, Bool.or_false]
    exact decide_eq_false (by omega)
  have c4 : Builtin.Tuple.tupleTooMany (((its.toArray.size : Nat) : Int) * k) = false := by
    unfold Builtin.Tuple.tupleTooMany
    rw [sizeLine_eq]
    exact decide_eq_false (by omega)
  refine wpAny_binaryOp_repeat_ref (T := "tuple") (U := "int") (by decide) ⟨_, ho, rfl⟩ (fun s' => typeIs_int s' k t) noFill_tuple_mul F.fills_int_mul F.slot_int_rmul repeat_tuple F.slot_int_index.lookup
    (call_meets F.slot_int_rmul (typeIs_int s k t) F.entry_int_rmul (F.args_int_rmul_2 _ _) (int_rmul_tuple k t l its.toArray n dd sl)
      ⟨ho, rfl, ⟨_, ho, rfl⟩, call_meets F.slot_tuple_mul ⟨_, ho, rfl⟩ F.entry_tuple_mul (F.args_tuple_mul_2 _ _) (tuple_mulW l its.toArray n dd sl k t c0 c1 c2 (by omega) c4 (by rw [size_rep, List.size_toArray]; exact flen)) ⟨ho, ?_⟩⟩)
  rw [size_rep]
  refine ⟨.ref s.heap.objs.size, _, I.laid (t' := s.toks) (o := .frz _ (.tup (List.replicate k.toNat xs).flatten)) (fun b ob q => Heap.get?_push_of_some _ q) (Nat.le_refl _) ⟨Heap.get?_push_size _ rfl, ?_⟩, rfl, q _ _ rfl (I.hok.fresh (Nat.le_refl _))⟩
  exact ⟨by rw [PyProof.Rows.lm_len_rep_flat, sizeLine_eq]; have a1 : k.toNat * xs.length ≤ 1000 * 1000 := Nat.mul_le_mul (by omega) hz; omega, _, r.rep k.toNat, IsTup.new _ _⟩
theorem bop_ok {X : Cx} (T : Cls2) (op : Operator) : OpR X (binaryOp op) (r2D T X.K (bop op)) := by
  intro pins s σ H v u V' U Q I rv ru h
  obtain ⟨av, x, y, r, hx, hy, he, q⟩ := h
  unfold bop at he
  split at he
  · cases he
    rw [vint hx] at rv; rw [vint hy] at ru
    exact op_add pins s σ H _ _ V' U Q I rv ru ⟨_, _, rfl, rfl, q _ _ _ (.val rint)⟩
  · split at he
    · rename_i hl
      cases he
      rw [vstr hx] at rv; rw [vstr hy] at ru
      exact op_add_str pins s σ H _ _ V' U Q I rv ru ⟨_, _, rfl, rfl, Nat.le_trans hl line_le, q _ _ _ (.val rstr)⟩
    · cases he
  · split at he
    · rename_i xs ys hl
      cases he
      obtain ⟨a, us, rfl, ha, ra⟩ := vtup hx
      obtain ⟨b, ws, rfl, hb, rb⟩ := vtup hy
      have ea := ra.length
      have eb := rb.length
      refine op_catX pins s σ H _ _ V' U Q I rv ru ⟨a, b, us, ws, rfl, rfl, ha.t, hb.t, Nat.le_trans (by omega) line_le, fun z => ?_, fun _ z => ?_, fun _ _ p ob hob hp => q _ _ _ (.tup hob hp (ra.append rb))⟩
      · subst z
        have : xs = [] := List.eq_nil_of_length_eq_zero ea
        subst this
        exact q _ _ _ (.val (rtup hb rb))
      · subst z
        have : ys = [] := List.eq_nil_of_length_eq_zero eb
        subst this
        rw [List.append_nil] at q
        exact q _ _ _ (.val (rtup ha ra))
    · cases he
  · split at he
    · rename_i xs ys hl
      cases he
      obtain ⟨a, us, rfl, ha, ra⟩ := vlst hx
      obtain ⟨b, ws, rfl, hb, rb⟩ := vlst hy
      have ea := ra.length
      have eb := rb.length
      exact op_cat pins s σ H _ _ V' U Q I rv ru ⟨a, b, us, ws, rfl, rfl, ha, hb, Nat.le_trans (by omega) line_le, fun p hp => q _ _ _ (.lst hp (ra.append rb))⟩
    · cases he
  · cases he
    rw [vint hx] at rv; rw [vint hy] at ru
    exact op_sub pins s σ H _ _ V' U Q I rv ru ⟨_, _, rfl, rfl, q _ _ _ (.val rint)⟩
  · split at he
    · rename_i hm
      cases he
      rw [vint hx] at rv; rw [vint hy] at ru
      exact op_mulW pins s σ H _ _ V' U Q I rv ru ⟨_, _, rfl, rfl, hm, q _ _ _ (.val rint)⟩
    · cases he
  · split at he
    · rename_i xs k hm
      cases he
      obtain ⟨a, us, rfl, ha, ra⟩ := vlst hx
      rw [vint hy] at ru
      have ea := ra.length
      exact op_rep pins s σ H _ _ V' U Q I rv ru ⟨a, k, us, rfl, rfl, ha, by omega, by omega, Nat.le_trans (by rw [← ea]; exact hm.2.2) line_le, fun p hp => q _ _ _ (.lst hp (ra.replicate _))⟩
    · cases he
  · split at he
    · rename_i xs k hm
      cases he
      obtain ⟨a, us, rfl, ha, ra⟩ := vtup hx
      rw [vint hy] at ru
      have ea := ra.length
      refine op_repTX pins s σ H _ _ V' U Q I rv ru ⟨a, k, us, rfl, rfl, ha.t, fun z => ?_, hm.2.1, hm.2.2.1, by rw [← ea]; exact hm.2.2.2, fun z => ?_, fun p ob hob hp => q _ _ _ (.tup hob hp (ra.replicate _))⟩
      · subst z
        have : xs = [] := List.eq_nil_of_length_eq_zero ea
        rw [this] at hm
        exact Bool.noConfusion hm.1
      · subst z
        have : (List.replicate (1 : Int).toNat xs).flatten = xs := by simp
        rw [this] at q
        exact q _ _ _ (.val (rtup ha ra))
    · cases he
  · split at he
    · rename_i x k hm
      cases he
      rw [vstr hx] at rv; rw [vint hy] at ru
      exact op_rep_str pins s σ H _ _ V' U Q I rv ru ⟨x, k, rfl, rfl, hm.1, hm.2.1, hm.2.2, q _ _ _ (.val rstr)⟩
    · cases he
  · split at he
    · rename_i i j hm
      cases he
      rw [vint hx] at rv; rw [vint hy] at ru
      rcases hm with hm | hm
      · refine op_fdivW pins s σ H _ _ V' U Q I rv ru ⟨i, j, rfl, rfl, hm, ?_⟩
        have e : i.fdiv j = i / j := Int.fdiv_eq_ediv_of_nonneg i (Int.le_of_lt hm.1)
        rw [e] at q
        exact q _ _ _ (.val rint)
      · exact op_fdivN pins s σ H _ _ V' U Q I rv ru ⟨i, j, rfl, rfl, hm, q _ _ _ (.val rint)⟩
    · cases he
  · split at he
    · rename_i i j hm
      cases he
      rw [vint hx] at rv; rw [vint hy] at ru
      exact op_modN pins s σ H _ _ V' U Q I rv ru ⟨i, j, rfl, rfl, hm, q _ _ _ (.val rint)⟩
    · cases he
  · split at he
    · rename_i i j hm
      cases he
      rw [vint hx] at rv; rw [vint hy] at ru
      exact op_powW pins s σ H _ _ V' U Q I rv ru ⟨i, j, rfl, rfl, hm, q _ _ _ (.val rint)⟩
    · cases he
  · split at he
    · rename_i i j hm
      cases he
      rw [vint hx] at rv; rw [vint hy] at ru
      exact op_shl pins s σ H _ _ V' U Q I rv ru ⟨i, j, rfl, rfl, hm, q _ _ _ (.val rint)⟩
    · cases he
  · split at he
    · rename_i i j hm
      cases he
      rw [vint hx] at rv; rw [vint hy] at ru
      exact op_shr pins s σ H _ _ V' U Q I rv ru ⟨i, j, rfl, rfl, hm, q _ _ _ (.val rint)⟩
    · cases he
  · cases he
    rw [vint hx] at rv; rw [vint hy] at ru
    exact op_and pins s σ H _ _ V' U Q I rv ru ⟨_, _, rfl, rfl, q _ _ _ (.val rint)⟩
  · cases he
    rw [vint hx] at rv; rw [vint hy] at ru
    exact op_or pins s σ H _ _ V' U Q I rv ru ⟨_, _, rfl, rfl, q _ _ _ (.val rint)⟩
  · cases he
end Mi

namespace Mi
open PySem PySem.Spec L2
open PyProof.Rows hiding St

/-! ## comparisons -/
section
variable {T : Cls2} {K : PySem.W.Frag} {H : Hp} {av : Av}
mutual
theorem dp_of : ∀ (n : Nat) (d : D) (v : V), plainN n d = true → Rep T K H av d v → Dp K H v (pyOf d)
  | _, .non, v, _, h => by rw [vnon (Rep.vrep h)]; unfold pyOf; exact .non
  | _, .bl b, v, _, h => by rw [vbl (Rep.vrep h)]; unfold pyOf; exact .bl b
  | _, .int i, v, _, h => by rw [vint (Rep.vrep h)]; unfold pyOf; exact .int i
  | _, .str x, v, _, h => by rw [vstr (Rep.vrep h)]; unfold pyOf; exact .str x
  | n + 1, .lst ds, v, p, h => by
    obtain ⟨a, xs, rfl, ha, r⟩ := vlst (Rep.vrep h)
    unfold pyOf
    exact .lst (SqL.of ha) (dps_of n ds xs (by unfold plainN at p; exact p) r)
  | n + 1, .scr ds, v, p, h => by
    obtain ⟨a, xs, rfl, ha, r⟩ := vscr (Rep.vrep h)
    unfold pyOf
    exact .lst ha (dps_of n ds xs (by unfold plainN at p; exact p) r)
  | n + 1, .tup ds, v, p, h => by
    obtain ⟨a, xs, rfl, ha, r⟩ := vtup (Rep.vrep h)
    unfold pyOf
    exact .tup ha.t (dps_of n ds xs (by unfold plainN at p; exact p) r)
  | 0, .lst _, _, p, _ => by unfold plainN at p; cases p
  | 0, .scr _, _, p, _ => by unfold plainN at p; cases p
  | 0, .tup _, _, p, _ => by unfold plainN at p; cases p
  | 0, .ins _ _, _, p, _ => by unfold plainN at p; cases p
  | _ + 1, .ins _ _, _, p, _ => by unfold plainN at p; cases p
  | 0, .dic _ _, _, p, _ => by unfold plainN at p; cases p
  | _ + 1, .dic _ _, _, p, _ => by unfold plainN at p; cases p
theorem dps_of : ∀ (n : Nat) (ds : List D) (xs : List V), plainsN n ds = true → Reps T K H av ds xs → DpAll K H xs (pysOf ds)
  | _, [], xs, _, h => by rw [h.nil_inv]; unfold pysOf; exact .nil
  | n, d :: ds, xs, p, h => by
    obtain ⟨v, r, rfl, h1, h2⟩ := h.cons_inv
    unfold plainsN at p
    rw [Bool.and_eq_true] at p
    unfold pysOf
    exact .cons (dp_of n d v p.1 h1) (dps_of n ds r p.2 h2)
end
theorem dp_view {d : D} {v : V} (p : plain d = true) (h : VRep T K H av d v) : Dp K H v (pyOf d) := by
  cases d with
  | lst ds =>
    obtain ⟨a, xs, rfl, ha, r⟩ := h
    unfold pyOf
    exact .lst (SqL.of ha) (dps_of 59 ds xs (by unfold plain plainN at p; exact p) r)
  | ins c ds => unfold plain plainN at p; cases p
  | dic ks ds => unfold plain plainN at p; cases p
  | non => exact dp_of (T := T) (av := av) 60 _ _ p h
  | bl _ => exact dp_of (T := T) (av := av) 60 _ _ p h
  | int _ => exact dp_of (T := T) (av := av) 60 _ _ p h
  | str _ => exact dp_of (T := T) (av := av) 60 _ _ p h
  | tup _ => exact dp_of (T := T) (av := av) 60 _ _ p h
  | scr _ => exact dp_of (T := T) (av := av) 60 _ _ p h
end
mutual
theorem shape_of : ∀ (n : Nat) (d : D), plainN n d = true → (pyOf d).canLay0 = true ∧ (pyOf d).depth ≤ n
  | n, .non, _ => by unfold pyOf PyData.canLay0 PyData.depth; simp
  | n, .bl b, _ => by unfold pyOf PyData.canLay0 PyData.depth; simp
  | n, .int i, _ => by unfold pyOf PyData.canLay0 PyData.depth; simp
  | n, .str x, p => by unfold plainN at p; unfold pyOf PyData.canLay0 PyData.depth; exact ⟨p, Nat.zero_le _⟩
  | n + 1, .lst ds, p => by
    unfold plainN at p
    obtain ⟨h1, h2⟩ := shapes_of n ds p
    unfold pyOf PyData.canLay0 PyData.depth
    exact ⟨h1, Nat.succ_le_succ h2⟩
  | n + 1, .scr ds, p => by
    unfold plainN at p
    obtain ⟨h1, h2⟩ := shapes_of n ds p
    unfold pyOf PyData.canLay0 PyData.depth
    exact ⟨h1, Nat.succ_le_succ h2⟩
  | n + 1, .tup ds, p => by
    unfold plainN at p
    obtain ⟨h1, h2⟩ := shapes_of n ds p
    unfold pyOf PyData.canLay0 PyData.depth
    exact ⟨h1, Nat.succ_le_succ h2⟩
  | 0, .lst _, p => by unfold plainN at p; cases p
  | 0, .scr _, p => by unfold plainN at p; cases p
  | 0, .tup _, p => by unfold plainN at p; cases p
  | 0, .ins _ _, p => by unfold plainN at p; cases p
  | _ + 1, .ins _ _, p => by unfold plainN at p; cases p
  | 0, .dic _ _, p => by unfold plainN at p; cases p
  | _ + 1, .dic _ _, p => by unfold plainN at p; cases p
theorem shapes_of : ∀ (n : Nat) (ds : List D), plainsN n ds = true → PyData.canLayAll0 (pysOf ds) = true ∧ PyData.depthAll (pysOf ds) ≤ n
  | n, [], _ => by unfold pysOf PyData.canLayAll0 PyData.depthAll; simp
  | n, d :: ds, p => by
    unfold plainsN at p
    rw [Bool.and_eq_true] at p
    obtain ⟨h1, h2⟩ := shape_of n d p.1
    obtain ⟨h3, h4⟩ := shapes_of n ds p.2
    unfold pysOf PyData.canLayAll0 PyData.depthAll
    exact ⟨by rw [h1, h3]; rfl, Nat.max_le.mpr ⟨h2, h4⟩⟩
end
theorem shaped_of {d : D} (p : plain d = true) : SeqAt.shaped (pyOf d) = true := by
  obtain ⟨h1, h2⟩ := shape_of 60 d p
  unfold SeqAt.shaped
  rw [h1, decide_eq_true (Nat.le_trans h2 (by decide))]
  rfl
mutual
theorem eqv_of : ∀ (n m : Nat) (a b : D), plainN n a = true → plainN m b = true → PyData.eqv (pyOf a) (pyOf b) = deq a b
  | n, m, .non, b, _, q => by cases b <;> first | (unfold pyOf; unfold deq; rfl) | (unfold pyOf deq PyData.eqv; rfl) | (cases m <;> (unfold plainN at q; cases q))
  | n, m, .bl x, b, _, q => by cases b <;> first | (unfold pyOf; unfold deq; rfl) | (unfold pyOf deq PyData.eqv; rfl) | (cases m <;> (unfold plainN at q; cases q))
  | n, m, .int x, b, _, q => by cases b <;> first | (unfold pyOf; unfold deq; rfl) | (unfold pyOf deq PyData.eqv; rfl) | (cases m <;> (unfold plainN at q; cases q))
  | n, m, .str x, b, _, q => by cases b <;> first | (unfold pyOf; unfold deq; rfl) | (unfold pyOf deq PyData.eqv; rfl) | (cases m <;> (unfold plainN at q; cases q))
  | n + 1, m + 1, .lst xs, .lst ys, p, q => by unfold plainN at p q; unfold pyOf deq PyData.eqv; exact eqvs_of n m xs ys p q
  | n + 1, m + 1, .lst xs, .scr ys, p, q => by unfold plainN at p q; unfold pyOf deq PyData.eqv; exact eqvs_of n m xs ys p q
  | n + 1, m + 1, .scr xs, .lst ys, p, q => by unfold plainN at p q; unfold pyOf deq PyData.eqv; exact eqvs_of n m xs ys p q
  | n + 1, m + 1, .scr xs, .scr ys, p, q => by unfold plainN at p q; unfold pyOf deq PyData.eqv; exact eqvs_of n m xs ys p q
  | n + 1, m + 1, .tup xs, .tup ys, p, q => by unfold plainN at p q; unfold pyOf deq PyData.eqv; exact eqvs_of n m xs ys p q
  | _, _, .lst xs, .non, p, q => by unfold pyOf deq PyData.eqv; rfl
  | _, _, .lst xs, .bl _, p, q => by unfold pyOf deq PyData.eqv; rfl
  | _, _, .lst xs, .int _, p, q => by unfold pyOf deq PyData.eqv; rfl
  | _, _, .lst xs, .str _, p, q => by unfold pyOf deq PyData.eqv; rfl
  | _, _, .lst xs, .tup _, p, q => by unfold pyOf deq PyData.eqv; rfl
  | _, _, .scr xs, .non, p, q => by unfold pyOf deq PyData.eqv; rfl
  | _, _, .scr xs, .bl _, p, q => by unfold pyOf deq PyData.eqv; rfl
  | _, _, .scr xs, .int _, p, q => by unfold pyOf deq PyData.eqv; rfl
  | _, _, .scr xs, .str _, p, q => by unfold pyOf deq PyData.eqv; rfl
  | _, _, .scr xs, .tup _, p, q => by unfold pyOf deq PyData.eqv; rfl
  | _, _, .tup xs, .non, p, q => by unfold pyOf deq PyData.eqv; rfl
  | _, _, .tup xs, .bl _, p, q => by unfold pyOf deq PyData.eqv; rfl
  | _, _, .tup xs, .int _, p, q => by unfold pyOf deq PyData.eqv; rfl
  | _, _, .tup xs, .str _, p, q => by unfold pyOf deq PyData.eqv; rfl
  | _, _, .tup xs, .lst _, p, q => by unfold pyOf deq PyData.eqv; rfl
  | _, _, .tup xs, .scr _, p, q => by unfold pyOf deq PyData.eqv; rfl
  | 0, _, .lst _, _, p, _ => by unfold plainN at p; cases p
  | 0, _, .scr _, _, p, _ => by unfold plainN at p; cases p
  | 0, _, .tup _, _, p, _ => by unfold plainN at p; cases p
  | n, _, .ins _ _, _, p, _ => by cases n <;> (unfold plainN at p; cases p)
  | n, _, .dic _ _, _, p, _ => by cases n <;> (unfold plainN at p; cases p)
  | _, 0, _, .lst _, _, q => by unfold plainN at q; cases q
  | _, 0, _, .scr _, _, q => by unfold plainN at q; cases q
  | _, 0, _, .tup _, _, q => by unfold plainN at q; cases q
  | _, m, _, .ins _ _, _, q => by cases m <;> (unfold plainN at q; cases q)
  | _, m, _, .dic _ _, _, q => by cases m <;> (unfold plainN at q; cases q)
theorem eqvs_of : ∀ (n m : Nat) (a b : List D), plainsN n a = true → plainsN m b = true → PyData.eqvAll (pysOf a) (pysOf b) = deqs a b
  | n, m, [], [], _, _ => by unfold pysOf deqs PyData.eqvAll; rfl
  | n, m, [], _ :: _, _, _ => by unfold pysOf deqs PyData.eqvAll; rfl
  | n, m, _ :: _, [], _, _ => by unfold pysOf deqs PyData.eqvAll; rfl
  | n, m, x :: xs, y :: ys, p, q => by
    unfold plainsN at p q
    rw [Bool.and_eq_true] at p q
    unfold pysOf deqs PyData.eqvAll
    rw [eqv_of n m x y p.1 q.1, eqvs_of n m xs ys p.2 q.2]
end
/-- a comparison by data -/
def rcD (T : Cls2) (K : PySem.W.Frag) (f : D → D → Option Bool) : R2 := fun v u H Q => ∃ av x y b, VRep T K H av x v ∧ VRep T K H av y u ∧ f x y = some b ∧ Q (.bl b) H
/-- a flat thing's value -/
def fv : D → V
  | .bl b => .bl b
  | .int i => .int i
  | .str x => .str x
  | _ => .non
section
variable {T : Cls2} {K : PySem.W.Frag} {H : Hp} {av : Av}
theorem fv_of {d : D} {v : V} (f : flat d = true) (h : VRep T K H av d v) : v = fv d := by
  cases d with
  | non => exact vnon h
  | bl b => exact vbl h
  | int i => exact vint h
  | str x => exact vstr h
  | _ => cases f
theorem fvs_of : ∀ {ds : List D} {xs : List V}, flats ds = true → Reps T K H av ds xs → xs = ds.map fv
  | [], _, _, h => by rw [h.nil_inv]; rfl
  | d :: ds, _, f, h => by
    obtain ⟨v, r, rfl, h1, h2⟩ := h.cons_inv
    unfold flats at f
    rw [List.all_cons, Bool.and_eq_true] at f
    rw [fv_of f.1 h1.vrep, fvs_of f.2 h2]
    rfl
theorem flat_fv {d : D} (f : flat d = true) : flatV (fv d) = true := by
  cases d <;> first | rfl | exact absurd (show false = true from f) Bool.false_ne_true
theorem flats_fv {ds : List D} (f : flats ds = true) : (ds.map fv).all flatV = true := by
  induction ds with
  | nil => rfl
  | cons d ds ih =>
    unfold flats at f
    rw [List.all_cons, Bool.and_eq_true] at f
    rw [List.map_cons, List.all_cons, flat_fv f.1, ih f.2]
    rfl
theorem eqV_fv {a b : D} (f : flat a = true) (g : flat b = true) : eqV (fv a) (fv b) = deq a b := by
  cases a <;> first | exact absurd (show false = true from f) Bool.false_ne_true | (cases b <;> first | exact absurd (show false = true from g) Bool.false_ne_true | (unfold deq; rfl))
theorem inV_fv {a : D} {ds : List D} (f : flat a = true) (g : flats ds = true) : inV (fv a) (ds.map fv) = isIn a ds := by
  unfold inV isIn
  induction ds with
  | nil => rfl
  | cons d ds ih =>
    unfold flats at g
    rw [List.all_cons, Bool.and_eq_true] at g
    rw [List.map_cons, List.any_cons, List.any_cons, eqV_fv g.1 f, ih g.2]
theorem scl_ok {a b : D} {v u : V} (s : scl a b = true) (ha : VRep T K H av a v) (hb : VRep T K H av b u) : scal v u = true ∧ decide (v = u) = deq a b := by
  cases a <;> cases b <;> first
    | exact absurd (show false = true from s) Bool.false_ne_true
    | (first | rw [vnon ha] | rw [vbl ha] | rw [vint ha] | rw [vstr ha]
       first | rw [vnon hb] | rw [vbl hb] | rw [vint hb] | rw [vstr hb]
       refine ⟨rfl, ?_⟩
       unfold deq
       first | rfl | exact dec_int | exact dec_bl | exact dec_str | (simp; done))
end
theorem non_view {T : Cls2} {K : PySem.W.Frag} {H : Hp} {av : Av} {d : D} {v : V} (h : VRep T K H av d v) : decide (v = .non) = isNon d := by
  cases d with
  | non => rw [vnon h]; rfl
  | bl b => rw [vbl h]; rfl
  | int i => rw [vint h]; rfl
  | str x => rw [vstr h]; rfl
  | tup ds => obtain ⟨a, xs, rfl, _⟩ := vtup h; rfl
  | lst ds => obtain ⟨a, xs, rfl, _⟩ := h; rfl
  | scr ds => obtain ⟨a, xs, rfl, _⟩ := vscr h; rfl
  | ins c ds => obtain ⟨a, dx, xs, rfl, _⟩ := h; rfl
  | dic ks ds => obtain ⟨a, xs, rfl, _⟩ := h; rfl
theorem cop_ok {X : Cx} (T : Cls2) (hu : X.A.units + 64 < cLine) (op : CmpOp) : OpR X (compareOp op) (rcD T X.K (cop op)) := by
  intro pins s σ H v u V' U Q I rv ru h
  obtain ⟨av, x, y, r, hx, hy, he, q⟩ := h
  unfold cop at he
  split at he
  · split at he
    · rename_i a b hs
      cases he
      rw [Bool.or_eq_true, Bool.and_eq_true] at hs
      rcases hs with hs | ⟨pa, pb⟩
      · obtain ⟨h1, h2⟩ := scl_ok hs hx hy
        exact op_eq pins s σ H _ _ V' U Q I rv ru ⟨h1, by rw [h2]; exact q⟩
      · exact op_eqD hu pins s σ H _ _ V' U Q I rv ru ⟨_, _, dp_view pa hx, dp_view pb hy, shaped_of pa, shaped_of pb, by rw [eqv_of 60 60 _ _ pa pb]; exact q⟩
    · cases he
  · split at he
    · rename_i a b hs
      cases he
      rw [Bool.or_eq_true, Bool.and_eq_true] at hs
      rcases hs with hs | ⟨pa, pb⟩
      · obtain ⟨h1, h2⟩ := scl_ok hs hx hy
        exact op_ne pins s σ H _ _ V' U Q I rv ru ⟨h1, by rw [h2]; exact q⟩
      · exact op_neD hu pins s σ H _ _ V' U Q I rv ru ⟨_, _, dp_view pa hx, dp_view pb hy, shaped_of pa, shaped_of pb, by rw [eqv_of 60 60 _ _ pa pb]; exact q⟩
    · cases he
  · cases he
    rw [vint hx] at rv; rw [vint hy] at ru
    exact op_lt pins s σ H _ _ V' U Q I rv ru ⟨_, _, rfl, rfl, q⟩
  · cases he
    rw [vint hx] at rv; rw [vint hy] at ru
    exact op_le pins s σ H _ _ V' U Q I rv ru ⟨_, _, rfl, rfl, q⟩
  · cases he
    rw [vint hx] at rv; rw [vint hy] at ru
    exact op_gt pins s σ H _ _ V' U Q I rv ru ⟨_, _, rfl, rfl, q⟩
  · cases he
    rw [vint hx] at rv; rw [vint hy] at ru
    exact op_ge pins s σ H _ _ V' U Q I rv ru ⟨_, _, rfl, rfl, q⟩
  · cases he
    rw [vstr hx] at rv; rw [vstr hy] at ru
    exact op_lt_str pins s σ H _ _ V' U Q I rv ru ⟨_, _, rfl, rfl, q⟩
  · cases he
    rw [vstr hx] at rv; rw [vstr hy] at ru
    exact op_le_str pins s σ H _ _ V' U Q I rv ru ⟨_, _, rfl, rfl, q⟩
  · cases he
    rw [vstr hx] at rv; rw [vstr hy] at ru
    exact op_gt_str pins s σ H _ _ V' U Q I rv ru ⟨_, _, rfl, rfl, q⟩
  · cases he
    rw [vstr hx] at rv; rw [vstr hy] at ru
    exact op_ge_str pins s σ H _ _ V' U Q I rv ru ⟨_, _, rfl, rfl, q⟩
  · rename_i a
    cases he
    rw [vnon hy] at ru
    refine op_isN pins s σ H _ _ V' U Q I rv ru ⟨rfl, ?_⟩
    rw [non_view hx]; exact q
  · cases he
    rw [vnon hy] at ru
    refine op_notN pins s σ H _ _ V' U Q I rv ru ⟨rfl, ?_⟩
    rw [non_view hx]; exact q
  · cases he
    rw [vbl hx] at rv; rw [vbl hy] at ru
    refine op_isBl pins s σ H _ _ V' U Q I rv ru ⟨_, _, rfl, rfl, ?_⟩
    rw [← Bool.beq_eq_decide_eq]; exact q
  · cases he
    rw [vbl hx] at rv; rw [vbl hy] at ru
    refine op_notBl pins s σ H _ _ V' U Q I rv ru ⟨_, _, rfl, rfl, ?_⟩
    rw [← Bool.beq_eq_decide_eq]; exact q
  · cases he
    rw [vstr hx] at rv; rw [vstr hy] at ru
    exact op_in_str pins s σ H _ _ V' U Q I rv ru ⟨_, _, rfl, rfl, q⟩
  · cases he
    rw [vstr hx] at rv; rw [vstr hy] at ru
    exact L2.op_notin_str pins s σ H _ _ V' U Q I rv ru ⟨_, _, rfl, rfl, q⟩
  · split at he
    · rename_i a ds hs
      cases he
      rw [Bool.and_eq_true] at hs
      obtain ⟨p, xs, rfl, hp, rp⟩ := vlst hy
      have e1 := fv_of hs.1 hx
      have e2 := fvs_of hs.2 rp
      subst e1 e2
      exact op_in_seq pins s σ H _ _ V' U Q I rv ru ⟨p, _, rfl, .inl (SqL.of hp), flat_fv hs.1, flats_fv hs.2, by rw [inV_fv hs.1 hs.2]; exact q⟩
    · cases he
  · split at he
    · rename_i a ds hs
      cases he
      rw [Bool.and_eq_true] at hs
      obtain ⟨p, xs, rfl, hp, rp⟩ := vlst hy
      have e1 := fv_of hs.1 hx
      have e2 := fvs_of hs.2 rp
      subst e1 e2
      exact op_notIn_seq pins s σ H _ _ V' U Q I rv ru ⟨p, _, rfl, .inl (SqL.of hp), flat_fv hs.1, flats_fv hs.2, by rw [inV_fv hs.1 hs.2]; exact q⟩
    · cases he
  · split at he
    · rename_i a ds hs
      cases he
      rw [Bool.and_eq_true] at hs
      obtain ⟨p, xs, rfl, hp, rp⟩ := vtup hy
      have e1 := fv_of hs.1 hx
      have e2 := fvs_of hs.2 rp
      subst e1 e2
      exact op_in_seq pins s σ H _ _ V' U Q I rv ru ⟨p, _, rfl, .inr hp.t, flat_fv hs.1, flats_fv hs.2, by rw [inV_fv hs.1 hs.2]; exact q⟩
    · cases he
  · split at he
    · rename_i a ds hs
      cases he
      rw [Bool.and_eq_true] at hs
      obtain ⟨p, xs, rfl, hp, rp⟩ := vtup hy
      have e1 := fv_of hs.1 hx
      have e2 := fvs_of hs.2 rp
      subst e1 e2
      exact op_notIn_seq pins s σ H _ _ V' U Q I rv ru ⟨p, _, rfl, .inr hp.t, flat_fv hs.1, flats_fv hs.2, by rw [inV_fv hs.1 hs.2]; exact q⟩
    · cases he
  · cases he
end Mi

namespace Mi
open PySem PySem.Spec L2
open PyProof.Rows hiding St

section
variable {T : Cls2} {K : PySem.W.Frag} {H : Hp} {av : Av}
theorem isEmpty_reps {ds : List D} {xs : List V} (r : Reps T K H av ds xs) : xs.isEmpty = ds.isEmpty := by
  have e := r.length
  cases ds <;> cases xs <;> first | rfl | simp at e
theorem tru_of {d : D} {v : V} {b : Bool} (h : VRep T K H av d v) (e : tru d = some b) : TruV K v H b := by
  cases d with
  | non => rw [vnon h]; cases e; exact rfl
  | bl x => rw [vbl h]; cases e; exact rfl
  | int i => rw [vint h]; cases e; exact rfl
  | str x =>
    rw [vstr h]
    have e : (if x.length ≤ line then some (x.length != 0) else none) = some b := e
    split at e
    · rename_i hl
      cases e
      refine ⟨Nat.le_trans hl line_le, ?_⟩
      cases x.length <;> rfl
    · cases e
  | tup ds => obtain ⟨a, xs, rfl, h1, h2⟩ := vtup h; cases e; exact .inr (.inl ⟨xs, h1.t, by rw [isEmpty_reps h2]⟩)
  | lst ds => obtain ⟨a, xs, rfl, h1, h2⟩ := vlst h; cases e; exact .inl ⟨xs, SqL.of h1, by rw [isEmpty_reps h2]⟩
  | scr ds => cases e
  | ins c ds => cases e
  | dic ks ds => cases e
end
/-! ## subscripts -/
theorem ixn_eq (n : Nat) (k : Int) : ixn n k = ixN n k := by
  unfold ixn ixN
  by_cases h : 0 ≤ k
  · rw [if_pos h, if_pos h]
    by_cases h2 : k.toNat < n
    · rw [if_pos h2, if_pos (by omega)]
    · rw [if_neg h2, if_neg (by omega)]
  · rw [if_neg h, if_neg h]
    by_cases h2 : 0 ≤ k + n
    · rw [if_pos h2, if_pos (by omega)]
    · rw [if_neg h2, if_neg (by omega)]
theorem atD_rep {T : Cls2} {K : PySem.W.Frag} {H : Hp} {av : Av} {ds : List D} {xs : List V} {k : Int} {d : D} (r : Reps T K H av ds xs) (e : atD ds k = some d) : ∃ v, atI xs k = some v ∧ Rep T K H av d v := by
  unfold atD at e
  unfold atI
  rw [← ixn_eq, ← r.length]
  cases h : ixn ds.length k with
  | none => rw [h] at e; cases e
  | some j =>
    rw [h] at e
    exact r.get e
theorem idx_ok {X : Cx} (T : Cls2) : IxR X (r2D T X.K fun x y => (idxD x y).map R.val) := by
  intro value slice pins s σ H v u V' U Q I rv ru h hs
  obtain ⟨av, x, y, r, hx, hy, he, q⟩ := h
  have he : (idxD x y).map R.val = some r := he
  cases hd : idxD x y with
  | none => rw [hd] at he; cases he
  | some d =>
    rw [hd] at he
    cases he
    unfold idxD at hd
    split at hd
    · obtain ⟨a, xs, rfl, h1, h2⟩ := vlst hx
      rw [vint hy] at ru
      obtain ⟨w, e1, e2⟩ := atD_rep h2 hd
      exact ix_list value slice pins s σ H _ _ V' U Q I rv ru ⟨a, xs, _, w, rfl, rfl, SqL.of h1, e1, q _ _ _ (.val e2)⟩ hs
    · obtain ⟨a, xs, rfl, h1, h2⟩ := vtup hx
      rw [vint hy] at ru
      obtain ⟨w, e1, e2⟩ := atD_rep h2 hd
      exact ix_tup value slice pins s σ H _ _ V' U Q I rv ru ⟨a, xs, _, w, rfl, rfl, h1.t, e1, q _ _ _ (.val e2)⟩ hs
    · obtain ⟨a, xs, rfl, h1, h2⟩ := vscr hx
      rw [vint hy] at ru
      obtain ⟨w, e1, e2⟩ := atD_rep h2 hd
      exact ix_list value slice pins s σ H _ _ V' U Q I rv ru ⟨a, xs, _, w, rfl, rfl, h1, e1, q _ _ _ (.val e2)⟩ hs
    · rename_i z k
      split at hd
      · rename_i hl
        rw [vstr hx] at rv
        rw [vint hy] at ru
        cases hj : (ixn z.length k).bind fun j => z.cps.toList[j]? with
        | none => rw [hj] at hd; cases hd
        | some c =>
          rw [hj] at hd
          cases hd
          refine ix_str value slice pins s σ H _ _ V' U Q I rv ru ⟨z, k, c, rfl, rfl, Nat.le_trans hl line_le, ?_, q _ _ _ (.val rstr)⟩ hs
          unfold atI
          rw [← ixn_eq, show z.cps.toList.length = z.length by simp [Str.length]]
          exact hj
      · cases hd
    · cases hd
theorem cutD_rep {T : Cls2} {K : PySem.W.Frag} {H : Hp} {av : Av} {ds : List D} {xs : List V} {lo hi : Option Int} (r : Reps T K H av ds xs) : Reps T K H av (cutD ds lo hi) (cutV xs lo hi) := by
  unfold cutD cutV
  rw [← r.length]
  exact (r.drop _).take _
/-- a tuple's slice, the new tuple's object known -/
theorem sl_tupX {X : Cx} : SlR X (fun x lo hi H Q => ∃ a xs, x = .ref a ∧ SqT X.K H a xs ∧
    (HT.sIx xs.length 0 lo = 0 ∧ HT.sIx xs.length xs.length hi = xs.length → Q (.ref a) H) ∧ (¬ (HT.sIx xs.length 0 lo = 0 ∧ HT.sIx xs.length xs.length hi = xs.length) → ∀ p (ob : Obj), ob.dict = none → H p = none → Q (.ref p) (upd H p (.frz ob (.tup (cutV xs lo hi)))))) := by
  intro pins s σ H x v vl vu lo hi sl Q I rx hs pl pu h
  obtain ⟨a, xs, rfl, hx, q1, q2⟩ := h
  cases rx
  obtain ⟨its, r, ht, hz⟩ := I.tuple hx
  have hlen : its.toArray.size = xs.length := by rw [List.size_toArray]; exact r.length.symm
  refine ⟨"tuple", _, PyProof.Rows.slot_tuple_getitem.lookup, ht.typeIs, ?_⟩
  by_cases hw : HT.sIx xs.length 0 lo = 0 ∧ HT.sIx xs.length xs.length hi = xs.length
  · exact getItem_tuple_whole ht hs pl pu (by rw [hlen]; exact hw) ⟨.ref a, H, I, rfl, q1 hw⟩
  · refine HT.getItem_tuple_cut ht hs pl pu (by rw [hlen]; exact hw) ?_ (by rw [hlen]; exact hz)
    rw [hlen]
    refine ⟨.ref s.heap.objs.size, _, I.laid (t' := s.toks) (o := .frz _ (.tup (cutV xs lo hi))) (fun b ob q => Heap.get?_push_of_some _ q) (Nat.le_refl _) ⟨Heap.get?_push_size _ rfl, ?_⟩, rfl, q2 hw _ _ rfl (I.hok.fresh (Nat.le_refl _))⟩
    exact ⟨Nat.le_trans (cutV_length xs lo hi) hz, _, (r.drop (HT.sIx xs.length 0 lo)).take (HT.sIx xs.length xs.length hi - HT.sIx xs.length 0 lo), IsTup.new _ _⟩
theorem call_tupX {X : Cx} : CallR X (.type "tuple") (fun xs H Q => ∃ p ys, xs = [.ref p] ∧ ((SqL X.K H p ys ∧ ∀ l (ob : Obj), ob.dict = none → H l = none → Q (.ref l) (upd H l (.frz ob (.tup ys)))) ∨ (SqT X.K H p ys ∧ Q (.ref p) H))) := by
  intro pins s σ H xs us Q I r h
  obtain ⟨p, ys, rfl, h⟩ := h
  obtain ⟨u, rfl, rx⟩ := vals1 r
  cases rx
  rcases h with ⟨hq, q⟩ | ⟨hq, q⟩
  · obtain ⟨its, r', pl, hz⟩ := I.list hq
    have hlen := r'.length
    refine call_tuple_list pl.isList (fun h' kp => ?_) (by simp only [List.size_toArray] <;> omega)
    have I1 : Inv X pins σ H { s with heap := h' } := I.kept (t' := s.toks) kp
    have I2 : Inv X pins σ (upd H h'.objs.size (.frz _ (.tup ys))) { s with heap := h'.push { cls := .type "tuple", data := .seq its.toArray } } :=
      I1.laid (t' := s.toks) (fun b o e => Heap.get?_push_of_some _ e) (Nat.le_refl _) ⟨Heap.get?_push_size _ rfl, show ObjOk X.prog X.w _ _ _ (.tup ys) from ⟨hz, its, r', IsTup.new _ _⟩⟩
    exact ⟨.ref h'.objs.size, _, I2, rfl, q _ _ rfl (I1.hok.fresh (Nat.le_refl _))⟩
  · obtain ⟨its, r', pl, hz⟩ := I.tuple hq
    exact call_tuple_same pl ⟨.ref p, H, I, rfl, q⟩
/-- a slice by data -/
def slD (T : Cls2) (K : PySem.W.Frag) : V → Option Int → Option Int → Hp → VK → Prop := fun v lo hi H Q => ∃ av x r, VRep T K H av x v ∧ slcD lo hi x = some r ∧ ∀ w H' av', Res T K H av r w H' av' → Q w H'
theorem slc_ok {X : Cx} (T : Cls2) : SlR X (slD T X.K) := by
  intro pins s σ H v V' vl vu lo hi sl Q I rv hs pl pu h
  obtain ⟨av, x, r, hx, he, q⟩ := h
  cases x with
  | lst ds =>
    obtain ⟨a, xs, rfl, h1, h2⟩ := vlst hx
    cases he
    exact sl_list pins s σ H _ V' vl vu lo hi sl Q I rv hs pl pu ⟨a, xs, rfl, SqL.of h1, fun p hp => q _ _ _ (.lst hp (cutD_rep h2))⟩
  | scr ds =>
    obtain ⟨a, xs, rfl, h1, h2⟩ := vscr hx
    cases he
    exact sl_list pins s σ H _ V' vl vu lo hi sl Q I rv hs pl pu ⟨a, xs, rfl, h1, fun p hp => q _ _ _ (.lst hp (cutD_rep h2))⟩
  | tup ds =>
    obtain ⟨a, xs, rfl, h1, h2⟩ := vtup hx
    cases he
    refine sl_tupX pins s σ H _ V' vl vu lo hi sl Q I rv hs pl pu ⟨a, xs, rfl, h1.t, fun hw => ?_, fun _ p ob hob hp => q _ _ _ (.tup hob hp (cutD_rep h2))⟩
    have e : cutD ds lo hi = ds := by
      unfold cutD
      rw [h2.length, hw.1, hw.2, List.drop_zero, Nat.sub_zero, ← h2.length, List.take_length]
    rw [e] at q
    exact q _ _ _ (.val (rtup h1 h2))
  | str z =>
    rw [vstr hx] at rv
    have he : (if z.length ≤ line then Mi.vl (.str (cutS z lo hi)) else none) = some r := he
    split at he
    · rename_i hl
      cases he
      exact sl_str pins s σ H _ V' vl vu lo hi sl Q I rv hs pl pu ⟨z, rfl, Nat.le_trans hl line_le, q _ _ _ (.val rstr)⟩
    · cases he
  | _ => cases he

/-! ## built-in functions -/
def VReps (T : Cls2) (K : PySem.W.Frag) (H : Hp) (av : Av) : List D → List V → Prop
  | [], vs => vs = []
  | d :: ds, vs => ∃ v r, vs = v :: r ∧ VRep T K H av d v ∧ VReps T K H av ds r
def bid : Bi → Value
  | .len => .builtin "len"
  | .abs => .builtin "abs"
  | .max2 => .builtin "max"
  | .min2 => .builtin "min"
  | .max1 => .builtin "max"
  | .min1 => .builtin "min"
  | .int => .type "int"
  | .bool => .type "bool"
  | .str => .type "str"
  | .sum => .builtin "sum"
  | .sum2 => .none
  | .all => .builtin "all"
  | .any => .builtin "any"
  | .list => .type "list"
  | .tuple => .type "tuple"
  | .sorted => .builtin "sorted"
  | .repr => .builtin "repr"
section
variable {T : Cls2} {K : PySem.W.Frag} {H : Hp} {av : Av}
theorem vreps1 {d : D} {vs : List V} (h : VReps T K H av [d] vs) : ∃ v, vs = [v] ∧ VRep T K H av d v := by
  obtain ⟨v, r, rfl, h1, h2⟩ := h
  cases (show r = [] from h2)
  exact ⟨v, rfl, h1⟩
theorem vreps2 {d e : D} {vs : List V} (h : VReps T K H av [d, e] vs) : ∃ v u, vs = [v, u] ∧ VRep T K H av d v ∧ VRep T K H av e u := by
  obtain ⟨v, r, rfl, h1, h2⟩ := h
  obtain ⟨u, rfl, h3⟩ := vreps1 h2
  exact ⟨v, u, rfl, h1, h3⟩
theorem ints_rep : ∀ {ds : List D} {ns : List Int} {xs : List V}, intsD ds = some ns → Reps T K H av ds xs → xs = ns.map V.int
  | [], _, _, e, h => by cases e; rw [h.nil_inv]; rfl
  | d :: ds, ns, _, e, h => by
    obtain ⟨v, r, rfl, h1, h2⟩ := h.cons_inv
    cases d with
    | int i =>
      unfold intsD at e
      cases q : intsD ds with
      | none => rw [q] at e; cases e
      | some ms =>
        rw [q] at e
        cases e
        rw [vint h1.vrep, ints_rep q h2]
        rfl
    | _ => cases e
theorem bls_rep : ∀ {ds : List D} {ns : List Bool} {xs : List V}, blsD ds = some ns → Reps T K H av ds xs → xs = ns.map V.bl
  | [], _, _, e, h => by cases e; rw [h.nil_inv]; rfl
  | d :: ds, ns, _, e, h => by
    obtain ⟨v, r, rfl, h1, h2⟩ := h.cons_inv
    cases d with
    | bl i =>
      unfold blsD at e
      cases q : blsD ds with
      | none => rw [q] at e; cases e
      | some ms =>
        rw [q] at e
        cases e
        rw [vbl h1.vrep, bls_rep q h2]
        rfl
    | _ => cases e
theorem strs_rep : ∀ {ds : List D} {ns : List Str} {xs : List V}, strsD ds = some ns → Reps T K H av ds xs → xs = ns.map V.str
  | [], _, _, e, h => by cases e; rw [h.nil_inv]; rfl
  | d :: ds, ns, _, e, h => by
    obtain ⟨v, r, rfl, h1, h2⟩ := h.cons_inv
    cases d with
    | str i =>
      unfold strsD at e
      cases q : strsD ds with
      | none => rw [q] at e; cases e
      | some ms =>
        rw [q] at e
        cases e
        rw [vstr h1.vrep, strs_rep q h2]
        rfl
    | _ => cases e
theorem reps_ints : ∀ ns : List Int, Reps T K H av (ns.map D.int) (ns.map V.int)
  | [] => .nil
  | n :: ns => .cons rint (reps_ints ns)
theorem reps_strs : ∀ ns : List Str, Reps T K H av (ns.map D.str) (ns.map V.str)
  | [] => .nil
  | n :: ns => .cons rstr (reps_strs ns)
theorem maxI_is : ∀ (xs : List Int) (m : Int), m ∈ xs → (∀ y, y ∈ xs → y ≤ m) → maxI xs = m
  | [], _, h, _ => by cases h
  | [x], m, h, _ => by cases List.mem_singleton.mp h; rfl
  | x :: y :: ys, m, h, hm => by
    have hx := hm x List.mem_cons_self
    have key : ∀ k, k ∈ (y :: ys) → (∀ z, z ∈ (y :: ys) → z ≤ k) → maxI (x :: y :: ys) = if k > x then k else x := fun k h1 h2 => by
      show (let m := maxI (y :: ys); if m > x then m else x) = _
      rw [maxI_is (y :: ys) k h1 h2]
    obtain ⟨k, h1, h2⟩ : ∃ k, k ∈ (y :: ys) ∧ ∀ z, z ∈ (y :: ys) → z ≤ k := by
      clear key hm h hx
      induction ys generalizing y with
      | nil => exact ⟨y, by simp, by simp⟩
      | cons z zs ih =>
        obtain ⟨k, h1, h2⟩ := ih z
        by_cases h : k ≤ y
        · exact ⟨y, by simp, fun w hw => by
            rcases List.mem_cons.mp hw with rfl | hw
            · exact Int.le_refl _
            · exact Int.le_trans (h2 w hw) h⟩
        · exact ⟨k, List.mem_cons_of_mem _ h1, fun w hw => by
            rcases List.mem_cons.mp hw with rfl | hw
            · omega
            · exact h2 w hw⟩
    rw [key k h1 h2]
    have hk := hm k (List.mem_cons_of_mem _ h1)
    rcases List.mem_cons.mp h with rfl | h
    · split <;> omega
    · have := h2 m h
      split <;> omega
theorem minI_is : ∀ (xs : List Int) (m : Int), m ∈ xs → (∀ y, y ∈ xs → m ≤ y) → minI xs = m
  | [], _, h, _ => by cases h
  | [x], m, h, _ => by cases List.mem_singleton.mp h; rfl
  | x :: y :: ys, m, h, hm => by
    have hx := hm x List.mem_cons_self
    have key : ∀ k, k ∈ (y :: ys) → (∀ z, z ∈ (y :: ys) → k ≤ z) → minI (x :: y :: ys) = if k < x then k else x := fun k h1 h2 => by
      show (let m := minI (y :: ys); if m < x then m else x) = _
      rw [minI_is (y :: ys) k h1 h2]
    obtain ⟨k, h1, h2⟩ : ∃ k, k ∈ (y :: ys) ∧ ∀ z, z ∈ (y :: ys) → k ≤ z := by
      clear key hm h hx
      induction ys generalizing y with
      | nil => exact ⟨y, by simp, by simp⟩
      | cons z zs ih =>
        obtain ⟨k, h1, h2⟩ := ih z
        by_cases h : y ≤ k
        · exact ⟨y, by simp, fun w hw => by
            rcases List.mem_cons.mp hw with rfl | hw
            · exact Int.le_refl _
            · exact Int.le_trans h (h2 w hw)⟩
        · exact ⟨k, List.mem_cons_of_mem _ h1, fun w hw => by
            rcases List.mem_cons.mp hw with rfl | hw
            · omega
            · exact h2 w hw⟩
    rw [key k h1 h2]
    have hk := hm k (List.mem_cons_of_mem _ h1)
    rcases List.mem_cons.mp h with rfl | h
    · split <;> omega
    · have := h2 m h
      split <;> omega
end
theorem ltCps_eq : ∀ a b : List Nat, Spec.ltCps a b = decide (a < b)
  | [], [] => by simp [Spec.ltCps]
  | [], _ :: _ => by simp [Spec.ltCps]
  | _ :: _, [] => by simp [Spec.ltCps]
  | a :: r, b :: t => by
    rw [Spec.ltCps, ltCps_eq r t]
    by_cases h : a = b <;> simp [List.cons_lt_cons_iff, h]
theorem sortI_uniq {ns ms : List Int} (h : ms.Perm ns) (g : ms.Pairwise (· ≤ ·)) : ms = sortI ns := by
  refine List.Perm.eq_of_pairwise (le := fun a b : Int => a ≤ b) (fun a b _ _ h1 h2 => Int.le_antisymm h1 h2) g ?_ (h.trans (List.mergeSort_perm ns _).symm)
  have := List.pairwise_mergeSort (le := fun a b : Int => decide (a ≤ b)) (fun a b c h1 h2 => by simp at *; omega) (fun a b => by simp; omega) ns
  exact this.imp fun h => by simpa using h
theorem rising_pw : ∀ {l : List Str} {p : Str}, risingS p l = true → (p :: l).Pairwise fun a b => a.cps.toList ≤ b.cps.toList
  | [], p, _ => by simp
  | x :: l, p, h => by
    rw [risingS, Bool.and_eq_true] at h
    have ih := rising_pw h.2
    have h1 : p.cps.toList ≤ x.cps.toList := by
      have := h.1
      rw [ltCps_eq] at this
      simpa using this
    refine List.pairwise_cons.mpr ⟨fun y hy => ?_, ih⟩
    rcases List.mem_cons.mp hy with rfl | hy
    · exact h1
    · exact List.le_trans h1 ((List.pairwise_cons.mp ih).1 y hy)
theorem sortT_uniq {xs ys : List Str} (h : ys.Perm xs) (g : sortedS ys = true) : ys = sortT xs := by
  refine List.Perm.eq_of_pairwise (le := fun a b : Str => a.cps.toList ≤ b.cps.toList) (fun a b _ _ h1 h2 => ?_) ?_ ?_ (h.trans (List.mergeSort_perm xs _).symm)
  · obtain ⟨⟨a⟩⟩ := a
    obtain ⟨⟨b⟩⟩ := b
    have : a = b := List.le_antisymm h1 h2
    rw [this]
  · cases ys with
    | nil => exact .nil
    | cons y ys => exact rising_pw g
  · have := List.pairwise_mergeSort (le := fun a b : Str => decide (a.cps.toList ≤ b.cps.toList)) (fun a b c h1 h2 => by simp at *; exact List.le_trans h1 h2) (fun a b => by simp; exact List.le_total _ _) xs
    exact this.imp fun h => by simpa using h
/-- a built-in by data -/
def biD (T : Cls2) (K : PySem.W.Frag) (b : Bi) : List V → Hp → VK → Prop := fun vs H Q => ∃ av ds r, VReps T K H av ds vs ∧ bi b ds = some r ∧ ∀ w H' av', Res T K H av r w H' av' → Q w H'
theorem plain_nodict {d : D} (p : plain d = true) : (pyOf d).hasDict = false := PyData.hasDict_of_canLay _ (shape_of 60 d p).1
theorem repr_ok {X : Cx} {T : Cls2} {av : Av} {pins : List (Addr × Obj)} {σ : L2.St} {H : Hp} {s : Shared} {d : D} {v : V} {u : Value} {Q : VK} (hg : X.A.guards = some []) (hu : X.A.units + 64 < cLine) (I : Inv X pins σ H s) (h : VRep T X.K H av d v) (r : RelV v u)
    (p : plain d = true) (sh : (pyOf d).showable = true) (sz : (pyOf d).shown.length ≤ line) (q : Q (.str (pyOf d).shown) H) : wpAny (model X.prog X.w) X.A (call (.builtin "repr") [u]) (EP X pins σ Q) X.xe s := by
  have sz' := Nat.le_trans sz line_le
  have dp := (shape_of 60 d p).2
  have key : ∀ a : Addr, u = .ref a → wpAny (model X.prog X.w) X.A (call (.builtin "repr") [u]) (EP X pins σ Q) X.xe s := by
    rintro a rfl
    obtain ⟨as, rd⟩ := Dp.reads I (pyOf d) v (.ref a) (dp_view p h) r
    exact repr_of_reads' (h₀ := s.heap) rd sh (PyData.noDict_hsm (plain_nodict p)) hg (by omega) (fun _ _ e => e) (fun h' tu tk kp => ⟨.str _, H, I.kept kp, ⟨_, rfl⟩, q⟩) sz'
  cases d with
  | non =>
    cases vnon h
    cases r
    exact PySem.P.repr_of_none ⟨.str _, H, I.tok _, ⟨_, rfl⟩, q⟩
  | bl b =>
    cases vbl h
    cases r
    refine PySem.P.repr_of_bool ⟨.str _, H, I.tok _, ⟨_, rfl⟩, ?_⟩
    cases b <;> exact q
  | int i =>
    cases vint h
    obtain ⟨t, rfl⟩ := r
    refine PySem.P.repr_of_int ?_ ⟨.str _, H, I.tok _, ⟨_, rfl⟩, q⟩
    simpa [pyOf, PyData.showable] using sh
  | str x =>
    cases vstr h
    obtain ⟨t, rfl⟩ := r
    exact PySem.P.repr_of_str ⟨.str _, H, I.tok _, ⟨_, rfl⟩, q⟩ sz'
  | lst ds => obtain ⟨a, xs, rfl, _, _⟩ := vlst h; exact key a r
  | tup ds => obtain ⟨a, xs, rfl, _, _⟩ := vtup h; exact key a r
  | scr ds => obtain ⟨a, xs, rfl, _, _⟩ := vscr h; exact key a r
  | ins c ds => unfold plain plainN at p; cases p
  | dic ks ds => unfold plain plainN at p; cases p
theorem reads_flat {T : Cls2} {K : PySem.W.Frag} {H : Hp} {av : Av} {hp : Heap} {d : D} {v : V} {u : Value} (hf : flat d = true) (h : Rep T K H av d v) (r : RelV v u) : Reads hp u (pyOf d) [] := by
  cases d with
  | non => unfold Rep at h; subst h; cases r; exact .none
  | bl b => unfold Rep at h; subst h; cases r; exact .bool b
  | int i => unfold Rep at h; subst h; obtain ⟨t, rfl⟩ := r; exact .int i t
  | str x => unfold Rep at h; subst h; obtain ⟨t, rfl⟩ := r; exact .str x t
  | tup _ => cases hf
  | lst _ => cases hf
  | scr _ => cases hf
  | ins _ _ => cases hf
  | dic _ _ => cases hf
theorem keyIs_reads {hp : Heap} {k : Key} {u : Value} (h : keyIs k u = true) : Reads hp u (keyPy k) [] := by
  cases k with
  | inl i =>
    have h : Value.isInt i u = true := h
    unfold Value.isInt at h
    split at h
    · rw [← eq_of_beq h]; exact .int _ _
    · cases h
  | inr x =>
    have h : Value.isStrOf x u = true := h
    unfold Value.isStrOf at h
    split at h
    · rw [← eq_of_beq h]; exact .str _ _
    · cases h
theorem dic_items {P : Program} {w : World} {T : Cls2} {K : PySem.W.Frag} {H : Hp} {av : Av} {hp : Heap} : ∀ {ks : List Key} {xs : List V} {ds : List D} {vs : List (Key × Value)} {es : List DictEntry}, Pairs (mixKind P w) es vs → KV (ks.zip xs) vs → ks.length = xs.length → Reps T K H av ds xs → flats ds = true →
    ReadsAll hp (es.map fun x => x.key) (((ks.map keyPy).zip (pysOf ds)).map fun x => x.1) [] ∧ ReadsAll hp (es.map fun x => x.val) (((ks.map keyPy).zip (pysOf ds)).map fun x => x.2) []
  | [], xs, ds, vs, es, hp1, hk, hl, hr, hf => by
    rw [List.zip_nil_left] at hk
    cases hk
    cases hp1
    exact ⟨.nil, .nil⟩
  | k :: ks, [], ds, vs, es, hp1, hk, hl, hr, hf => by cases hl
  | k :: ks, x :: xs, ds, vs, es, hp1, hk, hl, hr, hf => by
    cases ds with
    | nil => have := hr.nil_inv; cases this
    | cons d ds =>
      obtain ⟨r1, r2⟩ := Reps.cons_iff.mp hr
      unfold flats at hf
      rw [List.all_cons, Bool.and_eq_true] at hf
      rw [List.zip_cons_cons] at hk
      cases hk with
      | cons z zs =>
        cases hp1 with
        | cons a1 a2 a3 =>
          obtain ⟨z1, z2⟩ := z
          obtain ⟨i1, i2⟩ := dic_items (hp := hp) a3 zs (by simpa using hl) r2 hf.2
          simp only at z1 z2
          subst z1
          rw [pysOf]
          exact ⟨ReadsAll.cons (as := []) (bs := []) (keyIs_reads a1) i1, ReadsAll.cons (as := []) (bs := []) (reads_flat hf.1 r1 (by dsimp only; rw [a2]; exact z2)) i2⟩
theorem reads_dic {X : Cx} {T : Cls2} {av : Av} {pins : List (Addr × Obj)} {σ : L2.St} {H : Hp} {s : Shared} (I : L2.Inv X pins σ H s) {ks : List Key} {ds : List D} {xs : List V} {a : Addr} (h : H a = some (.dK (ks.zip xs))) (hl : ks.length = xs.length) (hr : Reps T X.K H av ds xs) (hf : flats ds = true) :
    Reads s.heap (.ref a) (.dict ((ks.map keyPy).zip (pysOf ds))) [a] ∧ (a == sysModules) = false := by
  have z := I.hok a _ h
  simp only [ObjOk] at z
  obtain ⟨_, hs, vs, hkv, o, es, ep, g1, g2, g3, g4, g5, g6⟩ := z
  obtain ⟨i1, i2⟩ := dic_items (hp := s.heap) g5 hkv hl hr hf
  exact ⟨.dict (as := []) (bs := []) g1 g2.1 g3 i1 i2, hs⟩
theorem key_depth (k : Key) : (keyPy k).depth ≤ 1 := by cases k <;> exact Nat.le_of_ble_eq_true rfl
theorem flat_depth {d : D} (h : flat d = true) : (pyOf d).depth ≤ 1 := by
  cases d <;> first | exact Nat.le_of_ble_eq_true rfl | cases h
theorem kv_depth : ∀ {ks : List Key} {ds : List D}, flats ds = true → PyData.depthKv ((ks.map keyPy).zip (pysOf ds)) ≤ 1
  | [], ds, _ => by rw [List.map_nil, List.zip_nil_left]; exact Nat.le_of_ble_eq_true rfl
  | k :: ks, [], _ => by rw [pysOf, List.zip_nil_right]; exact Nat.le_of_ble_eq_true rfl
  | k :: ks, d :: ds, h => by
    unfold flats at h
    rw [List.all_cons, Bool.and_eq_true] at h
    have ih := kv_depth (ks := ks) (ds := ds) h.2
    have h1 := key_depth k
    have h2 := flat_depth h.1
    rw [pysOf, List.map_cons, List.zip_cons_cons, PyData.depthKv]
    omega
theorem repr_okD {X : Cx} {T : Cls2} {av : Av} {pins : List (Addr × Obj)} {σ : L2.St} {H : Hp} {s : Shared} {d : D} {v : V} {u : Value} {Q : VK} (hg : X.A.guards = some []) (hu : X.A.units + 64 < cLine) (I : Inv X pins σ H s) (h : VRep T X.K H av d v) (r : RelV v u)
    (p : (plain d || dicFlat d) = true) (sh : (pyOf d).showable = true) (sz : (pyOf d).shown.length ≤ line) (q : Q (.str (pyOf d).shown) H) : wpAny (model X.prog X.w) X.A (call (.builtin "repr") [u]) (EP X pins σ Q) X.xe s := by
  cases hp : plain d with
  | true => exact repr_ok hg hu I h r hp sh sz q
  | false =>
    rw [hp, Bool.false_or] at p
    cases d with
    | dic ks ds =>
      obtain ⟨a, xs, rfl, h1, h2, h3⟩ := h
      cases r
      obtain ⟨rd, hs⟩ := reads_dic I h1 h2 h3 p
      have hd := kv_depth (ks := ks) (ds := ds) p
      have hd2 : (PyData.dict ((ks.map keyPy).zip (pysOf ds))).depth ≤ 2 := by rw [PyData.depth]; omega
      have e : pyOf (.dic ks ds) = .dict ((ks.map keyPy).zip (pysOf ds)) := by rw [pyOf]
      rw [e] at sh sz q
      exact repr_of_reads' (h₀ := s.heap) rd sh (fun _ z => by rw [List.mem_singleton] at z; rw [z] at hs; simp at hs) hg (by omega) (fun _ _ e => e) (fun h' tu tk kp => ⟨.str _, H, I.kept kp, ⟨_, rfl⟩, q⟩) (Nat.le_trans sz line_le)
    | non => cases p
    | bl _ => cases p
    | int _ => cases p
    | str _ => cases p
    | tup _ => cases p
    | lst _ => cases p
    | scr _ => cases p
    | ins _ _ => cases p
theorem bi_ok {X : Cx} (T : Cls2) (hc : X.calm = true) (hg : X.A.guards = some []) (hun : X.A.units + 64 < cLine) (b : Bi) (hb : b ≠ .sum2) : CallR X (bid b) (biD T X.K b) := by
  intro pins s σ H vs us Q I rs h
  obtain ⟨av, ds, r, hd, he, q⟩ := h
  unfold bi at he
  split at he
  · obtain ⟨v, rfl, h⟩ := vreps1 hd
    cases he
    obtain ⟨a, xs, rfl, h1, h2⟩ := vlst h
    rw [h2.length] at q
    exact call_len_seq pins s σ H _ us Q I rs ⟨a, xs, rfl, .inl (SqL.of h1), q _ _ _ (.val rint)⟩
  · obtain ⟨v, rfl, h⟩ := vreps1 hd
    cases he
    obtain ⟨a, xs, rfl, h1, h2⟩ := vtup h
    rw [h2.length] at q
    exact call_len_seq pins s σ H _ us Q I rs ⟨a, xs, rfl, .inr h1.t, q _ _ _ (.val rint)⟩
  · obtain ⟨v, rfl, h⟩ := vreps1 hd
    cases he
    obtain ⟨a, xs, rfl, h1, h2⟩ := vscr h
    rw [h2.length] at q
    exact call_len_seq pins s σ H _ us Q I rs ⟨a, xs, rfl, .inl h1, q _ _ _ (.val rint)⟩
  · obtain ⟨v, rfl, h⟩ := vreps1 hd
    split at he
    · rename_i hl
      cases he
      cases vstr h
      exact call_len_str pins s σ H _ us Q I rs ⟨_, rfl, Nat.le_trans hl line_le, q _ _ _ (.val rint)⟩
    · cases he
  · obtain ⟨v, rfl, h⟩ := vreps1 hd
    cases he
    cases vint h
    exact call_abs pins s σ H _ us Q I rs ⟨_, rfl, q _ _ _ (.val rint)⟩
  · obtain ⟨v, u, rfl, h, g⟩ := vreps2 hd
    cases he
    cases vint h
    cases vint g
    exact call_max2 hc pins s σ H _ us Q I rs ⟨_, _, rfl, q _ _ _ (.val rint)⟩
  · obtain ⟨v, u, rfl, h, g⟩ := vreps2 hd
    cases he
    cases vint h
    cases vint g
    exact call_min2 hc pins s σ H _ us Q I rs ⟨_, _, rfl, q _ _ _ (.val rint)⟩
  · obtain ⟨v, rfl, h⟩ := vreps1 hd
    obtain ⟨a, xs, rfl, h1, h2⟩ := vlst h
    obtain ⟨ns, e1, e2⟩ := Option.bind_eq_some_iff.mp he
    split at e2
    · cases e2
    · rename_i hn
      cases e2
      cases ints_rep e1 h2
      refine cr_max hc pins s σ H _ us Q I rs ⟨a, ns, rfl, SqL.of h1, List.length_pos_iff.mpr hn, fun m hm hle => ?_⟩
      rw [maxI_is ns m hm hle] at q
      exact q _ _ _ (.val rint)
  · obtain ⟨v, rfl, h⟩ := vreps1 hd
    obtain ⟨a, xs, rfl, h1, h2⟩ := vlst h
    obtain ⟨ns, e1, e2⟩ := Option.bind_eq_some_iff.mp he
    split at e2
    · cases e2
    · rename_i hn
      cases e2
      cases ints_rep e1 h2
      refine cr_min hc pins s σ H _ us Q I rs ⟨a, ns, rfl, SqL.of h1, List.length_pos_iff.mpr hn, fun m hm hle => ?_⟩
      rw [minI_is ns m hm hle] at q
      exact q _ _ _ (.val rint)
  · obtain ⟨v, rfl, h⟩ := vreps1 hd
    cases he
    cases vint h
    exact call_int1 pins s σ H _ us Q I rs (.inl ⟨_, rfl, q _ _ _ (.val rint)⟩)
  · obtain ⟨v, rfl, h⟩ := vreps1 hd
    cases he
    cases vbl h
    exact call_int1 pins s σ H _ us Q I rs (.inr ⟨_, rfl, q _ _ _ (.val rint)⟩)
  · obtain ⟨v, rfl, h⟩ := vreps1 hd
    cases he
    cases vint h
    exact call_bool1 pins s σ H _ us Q I rs (.inl ⟨_, rfl, q _ _ _ (.val rbl)⟩)
  · obtain ⟨v, rfl, h⟩ := vreps1 hd
    cases he
    cases vbl h
    exact call_bool1 pins s σ H _ us Q I rs (.inr ⟨_, rfl, q _ _ _ (.val rbl)⟩)
  · obtain ⟨v, rfl, h⟩ := vreps1 hd
    split at he
    · rename_i hl
      cases he
      cases vint h
      exact call_str_int pins s σ H _ us Q I rs ⟨_, rfl, hl, q _ _ _ (.val rstr)⟩
    · cases he
  · obtain ⟨v, rfl, h⟩ := vreps1 hd
    obtain ⟨a, xs, rfl, h1, h2⟩ := vlst h
    obtain ⟨ns, e1, e2⟩ := Option.bind_eq_some_iff.mp he
    cases e2
    cases ints_rep e1 h2
    exact cr_sum hc pins s σ H _ us Q I rs ⟨a, ns, rfl, SqL.of h1, q _ _ _ (.val rint)⟩
  · obtain ⟨v, rfl, h⟩ := vreps1 hd
    obtain ⟨a, xs, rfl, h1, h2⟩ := vtup h
    obtain ⟨ns, e1, e2⟩ := Option.bind_eq_some_iff.mp he
    cases e2
    cases ints_rep e1 h2
    obtain ⟨its, rv, hl, _⟩ := I.tuple h1.t
    rw [Vals.ref1 rs]
    have hi := rv.ints
    obtain ⟨xs, e⟩ := hi.allInts.items
    have hn : numsOf (intItems xs).toList = ns := by rw [← e]; exact hi.numsOf
    rw [nums_intItems] at hn
    rw [e] at hl
    refine PySem.W.ktm_sumG (I.ok.hd hc) hl fun h' tk t' hk => ?_
    rw [preSum_eq, List.take_of_length_le (by simp), hn]
    exact ⟨.int _, H, I.kept hk, ⟨_, rfl⟩, q _ _ _ (.val rint)⟩
  · exact absurd rfl hb
  · obtain ⟨v, rfl, h⟩ := vreps1 hd
    obtain ⟨a, xs, rfl, h1, h2⟩ := vlst h
    obtain ⟨ns, e1, e2⟩ := Option.bind_eq_some_iff.mp he
    cases e2
    cases bls_rep e1 h2
    exact cr_all hc pins s σ H _ us Q I rs ⟨a, ns, rfl, SqL.of h1, q _ _ _ (.val rbl)⟩
  · obtain ⟨v, rfl, h⟩ := vreps1 hd
    obtain ⟨a, xs, rfl, h1, h2⟩ := vlst h
    obtain ⟨ns, e1, e2⟩ := Option.bind_eq_some_iff.mp he
    cases e2
    cases bls_rep e1 h2
    exact cr_any hc pins s σ H _ us Q I rs ⟨a, ns, rfl, SqL.of h1, q _ _ _ (.val rbl)⟩
  · obtain ⟨v, rfl, h⟩ := vreps1 hd
    cases he
    obtain ⟨a, xs, rfl, h1, h2⟩ := vlst h
    exact call_list_of pins s σ H _ us Q I rs ⟨a, xs, rfl, .inl (SqL.of h1), fun l hl => q _ _ _ (.lst hl h2)⟩
  · obtain ⟨v, rfl, h⟩ := vreps1 hd
    cases he
    obtain ⟨a, xs, rfl, h1, h2⟩ := vtup h
    exact call_list_of pins s σ H _ us Q I rs ⟨a, xs, rfl, .inr h1.t, fun l hl => q _ _ _ (.lst hl h2)⟩
  · obtain ⟨v, rfl, h⟩ := vreps1 hd
    cases he
    obtain ⟨a, xs, rfl, h1, h2⟩ := vscr h
    exact call_list_of pins s σ H _ us Q I rs ⟨a, xs, rfl, .inl h1, fun l hl => q _ _ _ (.lst hl h2)⟩
  · obtain ⟨v, rfl, h⟩ := vreps1 hd
    cases he
    obtain ⟨a, xs, rfl, h1, h2⟩ := vlst h
    exact call_tupX pins s σ H _ us Q I rs ⟨a, xs, rfl, .inl ⟨SqL.of h1, fun l ob hob hl => q _ _ _ (.tup hob hl h2)⟩⟩
  · obtain ⟨v, rfl, h⟩ := vreps1 hd
    cases he
    obtain ⟨a, xs, rfl, h1, h2⟩ := vtup h
    exact call_tupX pins s σ H _ us Q I rs ⟨a, xs, rfl, .inr ⟨h1.t, q _ _ _ (.val (rtup h1 h2))⟩⟩
  · obtain ⟨v, rfl, h⟩ := vreps1 hd
    obtain ⟨a, xs, rfl, h1, h2⟩ := vlst h
    split at he
    · rename_i h64
      split at he
      · rename_i ns e1
        cases he
        cases ints_rep e1 h2
        refine cr_sorted pins s σ H _ us Q I rs ⟨a, ns, rfl, SqL.of h1, by rw [← List.length_map (f := V.int), ← h2.length]; exact h64, fun ms p g1 g2 hp => ?_⟩
        rw [sortI_uniq g1 g2]
        exact q _ _ _ (.lst hp (reps_ints _))
      · obtain ⟨ys, e1, e2⟩ := Option.bind_eq_some_iff.mp he
        cases e2
        cases strs_rep e1 h2
        refine cr_sortedS pins s σ H _ us Q I rs ⟨a, ys, rfl, SqL.of h1, by rw [← List.length_map (f := V.str), ← h2.length]; exact h64, fun ms p g1 g2 hp => ?_⟩
        rw [sortT_uniq g1 g2]
        exact q _ _ _ (.lst hp (reps_strs _))
    · cases he
  · obtain ⟨v, rfl, h⟩ := vreps1 hd
    split at he
    · rename_i hcond
      cases he
      simp only [Bool.and_eq_true, decide_eq_true_eq] at hcond
      obtain ⟨u, rfl, r⟩ := vals1 rs
      exact repr_okD hg hun I h r hcond.1.1 hcond.1.2 hcond.2 (q _ _ _ (.val rstr))
    · cases he
  · cases he
/-! ## isinstance -/
def tyN : Ty → String
  | .int => "int"
  | .bool => "bool"
  | .str => "str"
  | .tuple => "tuple"
  | .list => "list"
  | .dict => "dict"
section
variable {T : Cls2} {K : PySem.W.Frag} {H : Hp} {av : Av}
theorem isTy_ok {d : D} {v : V} {t : Ty} {b : Bool} (h : VRep T K H av d v) (e : isTy d t = some b) : ∃ u, TyX K H v u ∧ PySem.W.kitOne K u (.type (tyN t)) = some b := by
  cases d with
  | non => rw [vnon h]; refine ⟨_, .base .non, ?_⟩; cases t <;> (cases e; exact kit_ty (by decide +kernel))
  | bl x => rw [vbl h]; refine ⟨_, .base (.bl x), ?_⟩; cases t <;> (cases e; exact kit_ty (by decide +kernel))
  | int i => rw [vint h]; refine ⟨_, .base (.int i), ?_⟩; cases t <;> (cases e; exact kit_ty (by decide +kernel))
  | str x => rw [vstr h]; refine ⟨_, .base (.str x), ?_⟩; cases t <;> (cases e; exact kit_ty (by decide +kernel))
  | tup ds =>
    obtain ⟨a, xs, rfl, h1, h2⟩ := vtup h
    have h1 := h1.t
    rcases h1 with (h1 | ⟨o, h1⟩) | ⟨o, its, n, h1, hc, _⟩
    · refine ⟨_, .base (.tup h1), ?_⟩; cases t <;> (cases e; exact kit_ty (by decide +kernel))
    · refine ⟨_, .fTuple h1, ?_⟩; cases t <;> (cases e; exact kit_ty (by decide +kernel))
    · refine ⟨_, .kTuple h1 hc, ?_⟩; cases t <;> (cases e; exact kit_ty (by decide +kernel))
  | lst ds =>
    obtain ⟨a, xs, rfl, h1, h2⟩ := vlst h
    refine ⟨_, .base (.lst h1), ?_⟩; cases t <;> (cases e; exact kit_ty (by decide +kernel))
  | dic ks ds =>
    obtain ⟨a, xs, rfl, h1, _⟩ := h
    refine ⟨_, .base (.dK h1), ?_⟩; cases t <;> (cases e; exact kit_ty (by decide +kernel))
  | scr ds => cases t <;> cases e
  | ins c ds => cases t <;> cases e
end
end Mi

namespace Mi
open PySem PySem.Spec L2
open PyProof.Rows hiding St

/-! ## the promise of a def by its meaning -/
section
variable (T : Cls2) (K : PySem.W.Frag) (H : Hp) (av : Av)
def IRep : In → V → Prop
  | .val d, v => Rep T K H av d v
  | .own o, v => ∃ p, v = .ref p ∧ av p ∧ ORep T K H av o p
  | .bor o, v => ∃ p, v = .ref p ∧ av p ∧ ORep T K H av o p
def IReps : List In → List V → Prop
  | [], vs => vs = []
  | i :: is, vs => ∃ v r, vs = v :: r ∧ IRep T K H av i v ∧ IReps is r
end
def InOwn : Option In → Prop
  | some (.own _) => True
  | _ => False
def InBor : Option In → Prop
  | some (.bor _) => True
  | _ => False
def OwnIn (is : List In) (vs : List V) (j : Nat) (a : Addr) : Prop := InOwn is[j]? ∧ vs[j]? = some (V.ref a)
def BorIn (is : List In) (vs : List V) (j : Nat) (a : Addr) : Prop := InBor is[j]? ∧ vs[j]? = some (V.ref a)
structure ArgOk (T : Cls2) (K : PySem.W.Frag) (H : Hp) (av : Av) (is : List In) (vs : List V) : Prop where
  rep : IReps T K H av is vs
  inj : ∀ i j a, OwnIn is vs i a → OwnIn is vs j a ∨ BorIn is vs j a → i = j
  trk : ∀ a, av a → ∃ o, H a = some o
def OutOk (T : Cls2) (K : PySem.W.Frag) (H : Hp) (av : Av) (a : Addr) : Option Out → Prop
  | some (.own o) => av a ∧ ORep T K H av o a
  | some (.val d) => Rep T K H av d (.ref a)
  | _ => True
structure RetOk (T : Cls2) (K : PySem.W.Frag) (H : Hp) (av : Av) (is : List In) (vs : List V) (rt : Rt) (os : List Out) (v : V) (H' : Hp) (av' : Av) : Prop where
  ret : match rt with
    | .val d => Rep T K H' av' d v
    | .fr o => ∃ p, v = .ref p ∧ H p = none ∧ av' p ∧ ORep T K H' av' o p
  out : ∀ j a, OwnIn is vs j a → OutOk T K H' av' a os[j]?
  keep : ∀ a o, H a = some o → (∀ j, ¬ OwnIn is vs j a) → H' a = some o
  thr : ∀ a o, H a = some o → ∃ o', H' a = some o'
  av1 : ∀ a, av a → (∀ j, ¬ OwnIn is vs j a) → av' a
  av2 : ∀ a o, H a = some o → ¬ av a → ¬ av' a
  trk : ∀ a, av' a → ∃ o, H' a = some o
def spOf (T : Cls2) (K : PySem.W.Frag) (n : Nat) (f : Sem1) : Sp := fun vs H Q _ => vs.length = n ∧ ∃ av is rt os, ArgOk T K H av is vs ∧ f is = some (rt, os) ∧ ∀ v H' av', RetOk T K H av is vs rt os v H' av' → Q v H'

section
variable {T : Cls2} {K : PySem.W.Frag} {H H0 H1 H' : Hp} {av av1 av' : Av} {Γ Γ1 Γ2 Γ' : G} {σ : St}
/-- what arguments are while they wait -/
def IsFr : R → Prop
  | .fr _ => True
  | _ => False
def RReps (T : Cls2) (K : PySem.W.Frag) (H0 : Hp) (σ : St) (Γ : G) (H : Hp) (av : Av) : List R → List V → Prop
  | [], vs => vs = []
  | r :: rs, vs => ∃ v t, vs = v :: t ∧ RRep T K H0 σ Γ H av r v ∧ RReps T K H0 σ Γ H av rs t
theorem RReps.fra : ∀ {rs : List R} {vs : List V} {H0 : Hp}, Rel T K av Γ σ H → RReps T K H0 σ Γ H av rs vs → Fra σ Γ av H σ Γ' av' H' → RReps T K H0 σ Γ' H' av' rs vs
  | [], _, _, _, h, _ => h
  | r :: rs, _, _, rl, ⟨v, t, e, h1, h2⟩, f => ⟨v, t, e, h1.fra rl f, RReps.fra rl h2 f⟩
theorem RReps.older : ∀ {rs : List R} {vs : List V} {H0 H00 : Hp}, RReps T K H0 σ Γ H av rs vs → (∀ a, H0 a = none → H00 a = none) → RReps T K H00 σ Γ H av rs vs
  | [], _, _, _, h, _ => h
  | r :: rs, _, _, _, ⟨v, t, e, h1, h2⟩, k => ⟨v, t, e, h1.older k, RReps.older h2 k⟩
theorem RReps.append : ∀ {rs qs : List R} {vs ws : List V}, RReps T K H0 σ Γ H av rs vs → RReps T K H0 σ Γ H av qs ws → RReps T K H0 σ Γ H av (rs ++ qs) (vs ++ ws)
  | [], _, _, _, h, g => by cases (show _ = [] from h); exact g
  | r :: rs, _, _, _, ⟨v, t, e, h1, h2⟩, g => by subst e; exact ⟨v, t ++ _, rfl, h1, RReps.append h2 g⟩
theorem RReps.length : ∀ {rs : List R} {vs : List V}, RReps T K H0 σ Γ H av rs vs → rs.length = vs.length
  | [], _, h => by cases (show _ = [] from h); rfl
  | r :: rs, _, ⟨v, t, e, h1, h2⟩ => by subst e; simp [RReps.length h2]
theorem RReps.get : ∀ {rs : List R} {vs : List V} {i : Nat} {r : R}, RReps T K H0 σ Γ H av rs vs → rs[i]? = some r → ∃ v, vs[i]? = some v ∧ RRep T K H0 σ Γ H av r v
  | [], _, _, _, _, e => by simp at e
  | r :: rs, _, 0, _, ⟨v, t, e1, h1, h2⟩, e => by subst e1; simp at e; subst e; exact ⟨v, by simp, h1⟩
  | r :: rs, _, i + 1, _, ⟨v, t, e1, h1, h2⟩, e => by
    subst e1
    obtain ⟨w, q1, q2⟩ := RReps.get (i := i) h2 (by simpa using e)
    exact ⟨w, by simpa using q1, q2⟩
theorem RReps.look : ∀ {rs : List R} {vs : List V} {ds : List D}, Rel T K av Γ σ H → RReps T K H0 σ Γ H av rs vs → rs.mapM (look Γ) = some ds → VReps T K H av ds vs
  | [], _, _, _, h, e => by
    rw [List.mapM_nil] at e
    cases e
    exact h
  | r :: rs, _, ds, rl, ⟨v, t, e1, h1, h2⟩, e => by
    rw [List.mapM_cons] at e
    cases hr : Mi.look Γ r with
    | none => rw [hr] at e; cases e
    | some d =>
      rw [hr] at e
      cases hs : rs.mapM (Mi.look Γ) with
      | none => rw [hs] at e; cases e
      | some ds' =>
        rw [hs] at e
        cases e
        exact ⟨v, t, e1, look_ok rl h1 hr, RReps.look rl h2 hs⟩
/-- new lists that wait stand apart -/
def Apart (rs : List R) (vs : List V) : Prop := ∀ (i j : Nat) r q v, rs[i]? = some r → rs[j]? = some q → IsFr r → IsFr q → vs[i]? = some v → vs[j]? = some v → i = j
/-- behind arguments -/
structure PostA (T : Cls2) (K : PySem.W.Frag) (σ : St) (av : Av) (Γ : G) (H : Hp) (Γ' : G) (rs : List R) (vs : List V) (H' : Hp) (av' : Av) : Prop where
  rel : Rel T K av' Γ' σ H'
  rep : RReps T K H σ Γ' H' av' rs vs
  apt : Apart rs vs
  fra : Fra σ Γ av H σ Γ' av' H'
theorem PostA.nil (rl : Rel T K av Γ σ H) : PostA T K σ av Γ H Γ [] [] H av := ⟨rl, rfl, fun i j r q v h => by simp at h, Fra.refl⟩
theorem fr_new {r : R} {v : V} (f : IsFr r) (h : RRep T K H0 σ Γ H av r v) : ∃ p, v = .ref p ∧ H0 p = none ∧ ∃ u, H p = some u := by
  cases r with
  | fr o => obtain ⟨p, e, h1, h2, h3, h4⟩ := h; obtain ⟨u, hu, _⟩ := h1.wr; exact ⟨p, e, h3, u, hu⟩
  | val _ => exact f.elim
  | loc _ => exact f.elim
theorem PostA.cons {r : R} {v : V} {rs : List R} {vs : List V} (rl0 : Rel T K av Γ σ H) (P : Post T K σ av Γ H Γ1 r v H1 av1) (A : PostA T K σ av1 Γ1 H1 Γ2 rs vs H' av') : PostA T K σ av Γ H Γ2 (r :: rs) (v :: vs) H' av' where
  rel := A.rel
  rep := ⟨v, vs, rfl, P.rep.fra P.rel A.fra, A.rep.older fun a h => P.fra.free h⟩
  apt := by
    have hd : ∀ (j : Nat) q, rs[j]? = some q → IsFr r → IsFr q → vs[j]? = some v → False := fun j q hq f1 f2 e => by
      obtain ⟨p, e1, _, u, hu⟩ := fr_new f1 P.rep
      obtain ⟨w, e2, h2⟩ := A.rep.get hq
      obtain ⟨p', e3, h3, _⟩ := fr_new f2 h2
      rw [e] at e2
      cases e2
      rw [e1] at e3
      cases e3
      rw [hu] at h3
      cases h3
    intro i j q q' w h1 h2 f1 f2 e1 e2
    cases i with
    | zero =>
      cases j with
      | zero => rfl
      | succ j =>
        simp at h1 h2 e1 e2
        subst h1 e1
        exact (hd j q' h2 f1 f2 e2).elim
    | succ i =>
      cases j with
      | zero =>
        simp at h1 h2 e1 e2
        subst h2 e2
        exact (hd i q h1 f2 f1 e1).elim
      | succ j =>
        simp at h1 h2 e1 e2
        rw [A.apt i j q q' w h1 h2 f1 f2 e1 e2]
  fra := P.fra.trans rl0 A.fra
theorem PostA.append {rs qs : List R} {vs ws : List V} (rl0 : Rel T K av Γ σ H) (A : PostA T K σ av Γ H Γ1 rs vs H1 av1) (B : PostA T K σ av1 Γ1 H1 Γ2 qs ws H' av') : PostA T K σ av Γ H Γ2 (rs ++ qs) (vs ++ ws) H' av' where
  rel := B.rel
  rep := (A.rep.fra A.rel B.fra).append (B.rep.older fun a h => A.fra.free h)
  apt := by
    have el := A.rep.length
    have hd : ∀ (i j : Nat) r q w, rs[i]? = some r → qs[j]? = some q → IsFr r → IsFr q → vs[i]? = some w → ws[j]? = some w → False := fun i j r q w hr hq f1 f2 e e' => by
      obtain ⟨x, ex, hx⟩ := A.rep.get hr
      obtain ⟨y, ey, hy⟩ := B.rep.get hq
      obtain ⟨p, e1, _, u, hu⟩ := fr_new f1 hx
      obtain ⟨p', e3, h3, _⟩ := fr_new f2 hy
      rw [e] at ex
      cases ex
      rw [e'] at ey
      cases ey
      rw [e1] at e3
      cases e3
      rw [hu] at h3
      cases h3
    intro i j q q' w h1 h2 f1 f2 e1 e2
    by_cases hi : i < rs.length
    · rw [List.getElem?_append_left hi] at h1
      rw [List.getElem?_append_left (by omega)] at e1
      by_cases hj : j < rs.length
      · rw [List.getElem?_append_left hj] at h2
        rw [List.getElem?_append_left (by omega)] at e2
        exact A.apt i j q q' w h1 h2 f1 f2 e1 e2
      · rw [List.getElem?_append_right (by omega)] at h2
        rw [List.getElem?_append_right (by omega)] at e2
        rw [el] at h2
        exact (hd _ _ _ _ _ h1 h2 f1 f2 e1 e2).elim
    · rw [List.getElem?_append_right (by omega)] at h1
      rw [List.getElem?_append_right (by omega)] at e1
      rw [el] at h1
      by_cases hj : j < rs.length
      · rw [List.getElem?_append_left hj] at h2
        rw [List.getElem?_append_left (by omega)] at e2
        exact (hd _ _ _ _ _ h2 h1 f2 f1 e2 e1).elim
      · rw [List.getElem?_append_right (by omega)] at h2
        rw [List.getElem?_append_right (by omega)] at e2
        rw [el] at h2
        have := B.apt _ _ q q' w h1 h2 f1 f2 e1 e2
        omega
  fra := A.fra.trans rl0 B.fra

/-! ### from arguments to what a def takes -/
/-- an own entry taken away -/
theorem Rel.take (rl : Rel T K av Γ σ H) (i : Nat) : Rel T K av (Γ.set i .un) σ H := by
  refine ⟨by rw [List.length_set]; exact rl.len, fun j e he => ?_, fun j k p h1 h2 h3 h4 => ?_, rl.trk⟩
  · by_cases hj : i = j
    · subst hj
      by_cases hi : i < Γ.length
      · rw [List.getElem?_set_self hi] at he; cases he; trivial
      · rw [List.getElem?_eq_none (by rw [List.length_set]; omega)] at he; cases he
    · rw [List.getElem?_set_ne hj] at he
      exact rl.ent j e he
  · obtain ⟨z1, _⟩ := set_own (σ := σ) (e := .un) (fun z => z) ⟨h1, h3⟩
    exact rl.inj' z1 (h2.imp (fun z => (set_own (e := .un) (fun z => z) ⟨z, h4⟩).1) fun z => (set_bor (e := .un) (fun z => z) ⟨z, h4⟩).1)
theorem take_held {i j : Nat} {a : Addr} (h : HeldAt (Γ.set i .un) σ j a) : HeldAt Γ σ j a ∧ j ≠ i := by
  rcases h with h | h
  · obtain ⟨z1, z2⟩ := set_own (e := .un) (fun z => z) h; exact ⟨.inl z1, z2⟩
  · obtain ⟨z1, z2⟩ := set_bor (e := .un) (fun z => z) h; exact ⟨.inr z1, z2⟩
/-- what has been taken: its owners stand apart from what names hold, and from one another -/
structure Took (T : Cls2) (K : PySem.W.Frag) (H : Hp) (av : Av) (Γ : G) (σ : St) (is : List In) (vs : List V) : Prop where
  rep : IReps T K H av is vs
  out : ∀ j a, OwnIn is vs j a → ¬ Held Γ σ a
  inj : ∀ i j a, OwnIn is vs i a → OwnIn is vs j a ∨ BorIn is vs j a → i = j
theorem IReps.length : ∀ {is : List In} {vs : List V}, IReps T K H av is vs → is.length = vs.length
  | [], _, h => by cases (show _ = [] from h); rfl
  | i :: is, _, ⟨v, t, e, h1, h2⟩ => by subst e; simp [IReps.length h2]
theorem IReps.get : ∀ {is : List In} {vs : List V} {i : Nat} {r : In}, IReps T K H av is vs → is[i]? = some r → ∃ v, vs[i]? = some v ∧ IRep T K H av r v
  | [], _, _, _, _, e => by simp at e
  | r :: rs, _, 0, _, ⟨v, t, e1, h1, h2⟩, e => by subst e1; simp at e; subst e; exact ⟨v, by simp, h1⟩
  | r :: rs, _, i + 1, _, ⟨v, t, e1, h1, h2⟩, e => by
    subst e1
    obtain ⟨w, q1, q2⟩ := IReps.get (i := i) h2 (by simpa using e)
    exact ⟨w, by simpa using q1, q2⟩
theorem OwnIn.zero {i : In} {is : List In} {v : V} {vs : List V} {a : Addr} : OwnIn (i :: is) (v :: vs) 0 a ↔ InOwn (some i) ∧ v = .ref a := by
  unfold OwnIn; simp
theorem OwnIn.succ {i : In} {is : List In} {v : V} {vs : List V} {a : Addr} {j : Nat} : OwnIn (i :: is) (v :: vs) (j + 1) a ↔ OwnIn is vs j a := by
  unfold OwnIn; simp
theorem BorIn.zero {i : In} {is : List In} {v : V} {vs : List V} {a : Addr} : BorIn (i :: is) (v :: vs) 0 a ↔ InBor (some i) ∧ v = .ref a := by
  unfold BorIn; simp
theorem BorIn.succ {i : In} {is : List In} {v : V} {vs : List V} {a : Addr} {j : Nat} : BorIn (i :: is) (v :: vs) (j + 1) a ↔ BorIn is vs j a := by
  unfold BorIn; simp
theorem toIns_bor : ∀ {rs : List R} {is : List In} {Γ Γ2 : G} {o : OD}, toIns Γ rs = some (is, Γ2) → ∀ i : Nat, Γ[i]? = some (.bor o) → Γ2[i]? = some (.bor o)
  | [], _, _, _, _, e, i, h => by cases e; exact h
  | r :: rs, is, Γ, Γ2, o, e, i, h => by
    unfold toIns at e
    cases e1 : toIn Γ r with
    | none => rw [e1] at e; cases e
    | some z =>
      obtain ⟨i1, Γ1⟩ := z
      rw [e1] at e
      have e : (toIns Γ1 rs).map (fun (is, Γ2) => (i1 :: is, Γ2)) = some (is, Γ2) := e
      cases e2 : toIns Γ1 rs with
      | none => rw [e2] at e; cases e
      | some z2 =>
        rw [e2] at e
        cases e
        refine toIns_bor e2 i ?_
        cases r with
        | val d => cases e1; exact h
        | fr o => cases e1; exact h
        | loc l =>
          unfold toIn at e1
          simp only at e1
          split at e1
          · rename_i o' ho
            cases e1
            have : l ≠ i := fun z => by subst z; rw [h] at ho; cases ho
            rw [List.getElem?_set_ne this]; exact h
          · cases e1; exact h
          · cases e1
/-- all arguments are taken: Γ2 is what is left; owners were held in Γ, or wait as new lists; lent ones are lent in Γ2 -/
theorem toIns_ok : ∀ {rs : List R} {vs : List V} {is : List In} {Γ Γ2 : G}, Rel T K av Γ σ H → RReps T K H0 σ Γ H av rs vs → Apart rs vs → toIns Γ rs = some (is, Γ2) →
    Rel T K av Γ2 σ H ∧ Took T K H av Γ2 σ is vs ∧ (∀ j a, HeldAt Γ2 σ j a → HeldAt Γ σ j a) ∧ (∀ j a, BorIn is vs j a → Held Γ2 σ a) ∧
    (∀ j a, OwnIn is vs j a → (Held Γ σ a ∨ ∃ o, rs[j]? = some (.fr o))) ∧ (∀ j a, OwnIn is vs j a → ∀ l : Nat, rs[j]? = some (.loc l) → OwnAt Γ σ l a ∧ Γ2[l]? = some .un) ∧ Γ2.length = Γ.length ∧ (∀ l : Nat, Γ[l]? = some .un → Γ2[l]? = some .un)
  | [], _, _, _, _, rl, h, _, e => by
    cases (show _ = [] from h)
    cases e
    refine ⟨rl, ⟨rfl, fun j a z => ?_, fun i j a z => ?_⟩, fun _ _ z => z, fun j a z => ?_, fun j a z => ?_, fun j a z => ?_, rfl, fun _ h => h⟩
    all_goals
      obtain ⟨z, _⟩ := z
      simp at z
      exact z.elim
  | r :: rs, _, is, Γ, Γ2, rl, ⟨v, t, ev, h1, h2⟩, ap, e => by
    subst ev
    unfold toIns at e
    cases e1 : toIn Γ r with
    | none => rw [e1] at e; cases e
    | some z =>
      obtain ⟨i, Γ1⟩ := z
      rw [e1] at e
      have e : (toIns Γ1 rs).map (fun (is, Γ2) => (i :: is, Γ2)) = some (is, Γ2) := e
      cases e2 : toIns Γ1 rs with
      | none => rw [e2] at e; cases e
      | some z2 =>
        obtain ⟨is', Γ3⟩ := z2
        rw [e2] at e
        cases e
        have apT : Apart rs t := fun i j r' q w a1 a2 f1 f2 b1 b2 => by
          have := ap (i + 1) (j + 1) r' q w (by simpa using a1) (by simpa using a2) f1 f2 (by simpa using b1) (by simpa using b2)
          omega
        cases r with
        | val d =>
          cases e1
          obtain ⟨q1, q2, q3, q4, q5, q6, q7, q8⟩ := toIns_ok rl h2 apT e2
          refine ⟨q1, ⟨⟨v, t, rfl, h1, q2.rep⟩, fun j a z => ?_, fun i j a z1 z2 => ?_⟩, q3, fun j a z => ?_, fun j a z => ?_, fun j a z l hl => ?_, q7, q8⟩
          · cases j with
            | zero => exact (OwnIn.zero.mp z).1.elim
            | succ j => exact q2.out j a (OwnIn.succ.mp z)
          · cases i with
            | zero => exact (OwnIn.zero.mp z1).1.elim
            | succ i =>
              cases j with
              | zero => exact (z2.elim (fun z => (OwnIn.zero.mp z).1) fun z => (BorIn.zero.mp z).1).elim
              | succ j => rw [q2.inj i j a (OwnIn.succ.mp z1) (z2.imp OwnIn.succ.mp BorIn.succ.mp)]
          · cases j with
            | zero => exact (BorIn.zero.mp z).1.elim
            | succ j => exact q4 j a (BorIn.succ.mp z)
          · cases j with
            | zero => exact (OwnIn.zero.mp z).1.elim
            | succ j => exact (q5 j a (OwnIn.succ.mp z)).imp id fun ⟨o, h⟩ => ⟨o, by simpa using h⟩
          · cases j with
            | zero => exact (OwnIn.zero.mp z).1.elim
            | succ j => exact q6 j a (OwnIn.succ.mp z) l (by simpa using hl)
        | fr o =>
          cases e1
          obtain ⟨p, rfl, g1, g2, g3, g4⟩ := h1
          obtain ⟨q1, q2, q3, q4, q5, q6, q7, q8⟩ := toIns_ok rl h2 apT e2
          have nh : ¬ Held Γ2 σ p := fun ⟨j, z⟩ => g4 ⟨j, q3 j p z⟩
          have np : ∀ j, ¬ OwnIn is' t j p := fun j z => by
            rcases q5 j p z with z' | ⟨o', z'⟩
            · exact g4 z'
            · have := ap 0 (j + 1) (.fr o) (.fr o') (.ref p) rfl (by simpa using z') trivial trivial rfl (by simpa using z.2)
              omega
          refine ⟨q1, ⟨⟨.ref p, t, rfl, ⟨p, rfl, g2, g1⟩, q2.rep⟩, fun j a z => ?_, fun i j a z1 z2 => ?_⟩, q3, fun j a z => ?_, fun j a z => ?_, fun j a z l hl => ?_, q7, q8⟩
          · cases j with
            | zero =>
              obtain ⟨_, z⟩ := OwnIn.zero.mp z
              cases z
              exact nh
            | succ j => exact q2.out j a (OwnIn.succ.mp z)
          · cases i with
            | zero =>
              obtain ⟨_, z⟩ := OwnIn.zero.mp z1
              cases z
              cases j with
              | zero => rfl
              | succ j =>
                rcases z2 with z2 | z2
                · exact (np j (OwnIn.succ.mp z2)).elim
                · exact (nh (q4 j p (BorIn.succ.mp z2))).elim
            | succ i =>
              cases j with
              | zero =>
                rcases z2 with z2 | z2
                · obtain ⟨_, z⟩ := OwnIn.zero.mp z2
                  cases z
                  exact (np i (OwnIn.succ.mp z1)).elim
                · exact (BorIn.zero.mp z2).1.elim
              | succ j => rw [q2.inj i j a (OwnIn.succ.mp z1) (z2.imp OwnIn.succ.mp BorIn.succ.mp)]
          · cases j with
            | zero => exact (BorIn.zero.mp z).1.elim
            | succ j => exact q4 j a (BorIn.succ.mp z)
          · cases j with
            | zero => exact .inr ⟨o, rfl⟩
            | succ j => exact (q5 j a (OwnIn.succ.mp z)).imp id fun ⟨o, h⟩ => ⟨o, by simpa using h⟩
          · cases j with
            | zero => simp at hl
            | succ j => exact q6 j a (OwnIn.succ.mp z) l (by simpa using hl)
        | loc l =>
          obtain ⟨p, rfl, hp⟩ := h1
          unfold toIn at e1
          simp only at e1
          split at e1
          · rename_i o ho
            cases e1
            obtain ⟨p', e3, g2, g1⟩ := rl.own ho
            rw [hp] at e3
            cases e3
            have rl' := rl.take l
            have h2' : RReps T K H0 σ (Γ.set l .un) H av rs t := h2.fra rl ⟨fun _ _ h _ => h, fun _ _ h => ⟨_, h⟩, fun _ h _ => h, fun _ _ _ h => h, fun j a z => .inl (set_own (e := .un) (fun z => z) z).1, fun j a z => (set_bor (e := .un) (fun z => z) z).1⟩
            obtain ⟨q1, q2, q3, q4, q5, q6, q7, q8⟩ := toIns_ok rl' h2' apT e2
            have nh1 : ¬ Held (Γ.set l .un) σ p := fun ⟨j, z⟩ => by
              obtain ⟨z1, z2⟩ := take_held z
              exact z2 (rl.inj' (.mk' ho hp) z1).symm
            have nh : ¬ Held Γ2 σ p := fun ⟨j, z⟩ => nh1 ⟨j, q3 j p z⟩
            have np : ∀ j, ¬ OwnIn is' t j p := fun j z => by
              rcases q5 j p z with z' | ⟨o', z'⟩
              · exact nh1 z'
              · obtain ⟨w, e4, e5⟩ := h2.get z'
                obtain ⟨p2, e6, _, _, _, e7⟩ := e5
                rw [z.2] at e4
                cases e4
                cases e6
                exact e7 ⟨l, .inl (.mk' ho hp)⟩
            have hl' : l < Γ.length := (List.getElem?_eq_some_iff.mp ho).1
            refine ⟨q1, ⟨⟨.ref p, t, rfl, ⟨p, rfl, g2, g1⟩, q2.rep⟩, fun j a z => ?_, fun i j a z1 z2 => ?_⟩, fun j a z => (take_held (q3 j a z)).1, fun j a z => ?_, fun j a z => ?_, fun j a z l' hl => ?_, by rw [q7, List.length_set], fun k hk => q8 k ?_⟩
            · cases j with
              | zero =>
                obtain ⟨_, z⟩ := OwnIn.zero.mp z
                cases z
                exact nh
              | succ j => exact q2.out j a (OwnIn.succ.mp z)
            · cases i with
              | zero =>
                obtain ⟨_, z⟩ := OwnIn.zero.mp z1
                cases z
                cases j with
                | zero => rfl
                | succ j =>
                  rcases z2 with z2 | z2
                  · exact (np j (OwnIn.succ.mp z2)).elim
                  · exact (nh (q4 j p (BorIn.succ.mp z2))).elim
              | succ i =>
                cases j with
                | zero =>
                  rcases z2 with z2 | z2
                  · obtain ⟨_, z⟩ := OwnIn.zero.mp z2
                    cases z
                    exact (np i (OwnIn.succ.mp z1)).elim
                  · exact (BorIn.zero.mp z2).1.elim
                | succ j => rw [q2.inj i j a (OwnIn.succ.mp z1) (z2.imp OwnIn.succ.mp BorIn.succ.mp)]
            · cases j with
              | zero => exact (BorIn.zero.mp z).1.elim
              | succ j => exact q4 j a (BorIn.succ.mp z)
            · cases j with
              | zero =>
                obtain ⟨_, z⟩ := OwnIn.zero.mp z
                cases z
                exact .inl ⟨l, .inl (.mk' ho hp)⟩
              | succ j =>
                rcases q5 j a (OwnIn.succ.mp z) with ⟨k, z'⟩ | ⟨o', z'⟩
                · exact .inl ⟨k, (take_held z').1⟩
                · exact .inr ⟨o', by simpa using z'⟩
            · cases j with
              | zero =>
                obtain ⟨_, z⟩ := OwnIn.zero.mp z
                cases z
                have : l = l' := by simpa using hl
                subst this
                exact ⟨.mk' ho hp, q8 l (List.getElem?_set_self hl')⟩
              | succ j =>
                obtain ⟨z1, z2⟩ := q6 j a (OwnIn.succ.mp z) l' (by simpa using hl)
                exact ⟨(set_own (e := .un) (fun z => z) z1).1, z2⟩
            · by_cases hk' : l = k
              · subst hk'; exact List.getElem?_set_self hl'
              · rw [List.getElem?_set_ne hk']; exact hk
          · rename_i o ho
            cases e1
            obtain ⟨p', e3, g2, g1⟩ := rl.bor ho
            rw [hp] at e3
            cases e3
            obtain ⟨q1, q2, q3, q4, q5, q6, q7, q8⟩ := toIns_ok rl h2 apT e2
            have hk : ∀ i : Nat, Γ[i]? = some (.bor o) → Γ2[i]? = some (.bor o) := toIns_bor e2
            have hB : Held Γ2 σ p := ⟨l, .inr (.mk' (hk l ho) hp)⟩
            refine ⟨q1, ⟨⟨.ref p, t, rfl, ⟨p, rfl, g2, g1⟩, q2.rep⟩, fun j a z => ?_, fun i j a z1 z2 => ?_⟩, q3, fun j a z => ?_, fun j a z => ?_, fun j a z l' hl => ?_, q7, q8⟩
            · cases j with
              | zero => exact (OwnIn.zero.mp z).1.elim
              | succ j => exact q2.out j a (OwnIn.succ.mp z)
            · cases i with
              | zero => exact (OwnIn.zero.mp z1).1.elim
              | succ i =>
                cases j with
                | zero =>
                  rcases z2 with z2 | z2
                  · exact (OwnIn.zero.mp z2).1.elim
                  · obtain ⟨_, z⟩ := BorIn.zero.mp z2
                    cases z
                    exact (q2.out i p (OwnIn.succ.mp z1) hB).elim
                | succ j => rw [q2.inj i j a (OwnIn.succ.mp z1) (z2.imp OwnIn.succ.mp BorIn.succ.mp)]
            · cases j with
              | zero =>
                obtain ⟨_, z⟩ := BorIn.zero.mp z
                cases z
                exact hB
              | succ j => exact q4 j a (BorIn.succ.mp z)
            · cases j with
              | zero => exact (OwnIn.zero.mp z).1.elim
              | succ j => exact (q5 j a (OwnIn.succ.mp z)).imp id fun ⟨o, h⟩ => ⟨o, by simpa using h⟩
            · cases j with
              | zero => exact (OwnIn.zero.mp z).1.elim
              | succ j => exact q6 j a (OwnIn.succ.mp z) l' (by simpa using hl)
          · cases e1
theorem toIns_val : ∀ {rs : List R} {is : List In} {Γ Γ2 : G} {j : Nat} {d : D}, toIns Γ rs = some (is, Γ2) → rs[j]? = some (.val d) → is[j]? = some (.val d)
  | [], _, _, _, _, _, _, h => by simp at h
  | r :: rs, is, Γ, Γ2, j, d, e, h => by
    unfold toIns at e
    cases e1 : toIn Γ r with
    | none => rw [e1] at e; cases e
    | some z =>
      obtain ⟨i1, Γ1⟩ := z
      rw [e1] at e
      have e : (toIns Γ1 rs).map (fun (is, Γ2) => (i1 :: is, Γ2)) = some (is, Γ2) := e
      cases e2 : toIns Γ1 rs with
      | none => rw [e2] at e; cases e
      | some z2 =>
        rw [e2] at e
        cases e
        cases j with
        | zero =>
          have : r = .val d := by simpa using h
          subst this
          cases e1
          rfl
        | succ j => simpa using toIns_val e2 (by simpa using h)
theorem toIns_fr : ∀ {rs : List R} {is : List In} {Γ Γ2 : G} {j : Nat} {d : OD}, toIns Γ rs = some (is, Γ2) → rs[j]? = some (.fr d) → is[j]? = some (.own d)
  | [], _, _, _, _, _, _, h => by simp at h
  | r :: rs, is, Γ, Γ2, j, d, e, h => by
    unfold toIns at e
    cases e1 : toIn Γ r with
    | none => rw [e1] at e; cases e
    | some z =>
      obtain ⟨i1, Γ1⟩ := z
      rw [e1] at e
      have e : (toIns Γ1 rs).map (fun (is, Γ2) => (i1 :: is, Γ2)) = some (is, Γ2) := e
      cases e2 : toIns Γ1 rs with
      | none => rw [e2] at e; cases e
      | some z2 =>
        rw [e2] at e
        cases e
        cases j with
        | zero =>
          have : r = .fr d := by simpa using h
          subst this
          cases e1
          rfl
        | succ j => simpa using toIns_fr e2 (by simpa using h)
theorem toIns_mono : ∀ {rs : List R} {is : List In} {Γ Γ2 : G}, toIns Γ rs = some (is, Γ2) → ∀ (i : Nat) e, Γ2[i]? = some e → e = .un ∨ Γ[i]? = some e
  | [], _, _, _, e, i, e', h => by cases e; exact .inr h
  | r :: rs, is, Γ, Γ2, e, i, e', h => by
    unfold toIns at e
    cases e1 : toIn Γ r with
    | none => rw [e1] at e; cases e
    | some z =>
      obtain ⟨i1, Γ1⟩ := z
      rw [e1] at e
      have e : (toIns Γ1 rs).map (fun (is, Γ2) => (i1 :: is, Γ2)) = some (is, Γ2) := e
      cases e2 : toIns Γ1 rs with
      | none => rw [e2] at e; cases e
      | some z2 =>
        rw [e2] at e
        cases e
        rcases toIns_mono e2 i e' h with h | h
        · exact .inl h
        · cases r with
          | val d => cases e1; exact .inr h
          | fr o => cases e1; exact .inr h
          | loc l =>
            unfold toIn at e1
            simp only at e1
            split at e1
            · rename_i o' ho
              cases e1
              by_cases hl : l = i
              · subst hl
                rw [List.getElem?_set_self (List.getElem?_eq_some_iff.mp ho).1] at h
                cases h
                exact .inl rfl
              · rw [List.getElem?_set_ne hl] at h
                exact .inr h
            · cases e1; exact .inr h
            · cases e1
/-- a thing comes back to its name -/
theorem Rel.give (rl : Rel T K av Γ σ H) {l : Nat} {a : Addr} {o : Out} (hσ : σ[l]? = some (some (V.ref a))) (ho : OutOk T K H av a (some o)) (nh : ¬ Held Γ σ a) : Rel T K av (Γ.set l o.en) σ H := by
  have hl : l < Γ.length := by rw [rl.len]; exact (List.getElem?_eq_some_iff.mp hσ).1
  refine ⟨by rw [List.length_set]; exact rl.len, fun j e he => ?_, fun j k p h1 h2 h3 h4 => ?_, rl.trk⟩
  · by_cases hj : l = j
    · subst hj
      rw [List.getElem?_set_self hl] at he
      cases he
      cases o with
      | non => trivial
      | val d => exact ⟨_, hσ, ho⟩
      | own o' => exact ⟨a, hσ, ho.1, ho.2⟩
    · rw [List.getElem?_set_ne hj] at he
      exact rl.ent j e he
  · have key : ∀ k q, HeldAt (Γ.set l o.en) σ k q → (k = l ∧ q = a) ∨ HeldAt Γ σ k q := fun k q z => by
      by_cases hk : l = k
      · subst hk
        left
        refine ⟨rfl, ?_⟩
        have : σ[l]? = some (some (V.ref q)) := z.elim (fun z => z.2) fun z => z.2
        rw [hσ] at this
        cases this
        rfl
      · right
        refine z.imp (fun z => ?_) fun z => ?_
        · obtain ⟨z1, z2⟩ := z; rw [List.getElem?_set_ne hk] at z1; exact ⟨z1, z2⟩
        · obtain ⟨z1, z2⟩ := z; rw [List.getElem?_set_ne hk] at z1; exact ⟨z1, z2⟩
    rcases key j p (.inl ⟨h1, h3⟩) with ⟨e1, e2⟩ | k1
    · rcases key k p (h2.imp (fun z => ⟨z, h4⟩) fun z => ⟨z, h4⟩) with ⟨e3, e4⟩ | k2
      · rw [e1, e3]
      · exact (nh ⟨k, e2 ▸ k2⟩).elim
    · rcases key k p (h2.imp (fun z => ⟨z, h4⟩) fun z => ⟨z, h4⟩) with ⟨e3, e4⟩ | k2
      · exact (nh ⟨j, e4 ▸ k1⟩).elim
      · by_cases hj : l = j
        · subst hj
          rw [hσ] at h3
          cases h3
          exact (nh ⟨l, k1⟩).elim
        · rw [List.getElem?_set_ne hj] at h1
          exact rl.inj' ⟨h1, h3⟩ k2
theorem give_held {l k : Nat} {a q : Addr} {e : En} (hσ : σ[l]? = some (some (V.ref a))) (z : HeldAt (Γ.set l e) σ k q) : (k = l ∧ q = a) ∨ HeldAt Γ σ k q := by
  by_cases hk : l = k
  · subst hk
    left
    refine ⟨rfl, ?_⟩
    have : σ[l]? = some (some (V.ref q)) := z.elim (fun z => z.2) fun z => z.2
    rw [hσ] at this
    cases this
    rfl
  · right
    refine z.imp (fun z => ?_) fun z => ?_
    · obtain ⟨z1, z2⟩ := z; rw [List.getElem?_set_ne hk] at z1; exact ⟨z1, z2⟩
    · obtain ⟨z1, z2⟩ := z; rw [List.getElem?_set_ne hk] at z1; exact ⟨z1, z2⟩
theorem backs_ok : ∀ {rs : List R} {is : List In} {os : List Out} {vs : List V} {Γ : G}, Rel T K av Γ σ H → (∀ (j : Nat) a (l : Nat), OwnIn is vs j a → rs[j]? = some (.loc l) → σ[l]? = some (some (V.ref a))) →
    (∀ (j : Nat) a, OwnIn is vs j a → OutOk T K H av a os[j]?) → (∀ j a, OwnIn is vs j a → ¬ Held Γ σ a) → (∀ i j a, OwnIn is vs i a → OwnIn is vs j a → i = j) →
    (∀ j : Nat, InOwn is[j]? → ∃ a, vs[j]? = some (V.ref a)) →
    Rel T K av (backs rs is os Γ) σ H ∧ (∀ i a, OwnAt (backs rs is os Γ) σ i a → OwnAt Γ σ i a ∨ ∃ j : Nat, rs[j]? = some (.loc i) ∧ OwnIn is vs j a) ∧ (∀ i a, BorAt (backs rs is os Γ) σ i a → BorAt Γ σ i a)
  | [], is, os, vs, Γ, rl, _, _, _, _, _ => by
    have e : backs [] is os Γ = Γ := by cases is <;> cases os <;> rfl
    rw [e]
    exact ⟨rl, fun _ _ z => .inl z, fun _ _ z => z⟩
  | r :: rs, [], os, vs, Γ, rl, _, _, _, _, _ => by
    have e : backs (r :: rs) [] os Γ = Γ := by cases os <;> cases r <;> rfl
    rw [e]
    exact ⟨rl, fun _ _ z => .inl z, fun _ _ z => z⟩
  | r :: rs, i :: is, [], vs, Γ, rl, _, _, _, _, _ => by
    have e : backs (r :: rs) (i :: is) [] Γ = Γ := by cases r <;> cases i <;> rfl
    rw [e]
    exact ⟨rl, fun _ _ z => .inl z, fun _ _ z => z⟩
  | r :: rs, i :: is, o :: os, vs, Γ, rl, h1, h2, h3, h4, h5 => by
    have shift : ∀ j a, OwnIn is vs.tail j a → OwnIn (i :: is) vs (j + 1) a := fun j a z => ⟨by simpa using z.1, by
      have := z.2
      rw [List.getElem?_tail] at this
      exact this⟩
    have skip : ∀ {Γ' : G}, backs (r :: rs) (i :: is) (o :: os) Γ = backs rs is os Γ' → Rel T K av Γ' σ H → (∀ j a, OwnIn is vs.tail j a → ¬ Held Γ' σ a) → (∀ k a, OwnAt Γ' σ k a → OwnAt Γ σ k a ∨ ∃ j : Nat, (r :: rs)[j]? = some (.loc k) ∧ OwnIn (i :: is) vs j a) → (∀ k a, BorAt Γ' σ k a → BorAt Γ σ k a) →
        Rel T K av (backs (r :: rs) (i :: is) (o :: os) Γ) σ H ∧ (∀ k a, OwnAt (backs (r :: rs) (i :: is) (o :: os) Γ) σ k a → OwnAt Γ σ k a ∨ ∃ j : Nat, (r :: rs)[j]? = some (.loc k) ∧ OwnIn (i :: is) vs j a) ∧ (∀ k a, BorAt (backs (r :: rs) (i :: is) (o :: os) Γ) σ k a → BorAt Γ σ k a) := fun {Γ'} e rl' nh' ow bo => by
      obtain ⟨a1, a2, a3⟩ := backs_ok (rs := rs) (is := is) (os := os) (vs := vs.tail) (Γ := Γ') rl' (fun j a l z q => h1 (j + 1) a l (shift j a z) (by simpa using q)) (fun j a z => by simpa using h2 (j + 1) a (shift j a z)) nh' (fun k j a z z' => by
        have := h4 (k + 1) (j + 1) a (shift k a z) (shift j a z')
        omega) (fun j z => by
        obtain ⟨a, q⟩ := h5 (j + 1) (by simpa using z)
        exact ⟨a, by rw [List.getElem?_tail]; exact q⟩)
      rw [e]
      refine ⟨a1, fun k a z => ?_, fun k a z => bo k a (a3 k a z)⟩
      rcases a2 k a z with z | ⟨j, z1, z2⟩
      · exact ow k a z
      · exact .inr ⟨j + 1, by simpa using z1, shift j a z2⟩
    cases r with
    | val d => exact skip (Γ' := Γ) (by cases i <;> rfl) rl (fun j a z => h3 (j + 1) a (shift j a z)) (fun _ _ z => .inl z) fun _ _ z => z
    | fr d => exact skip (Γ' := Γ) (by cases i <;> rfl) rl (fun j a z => h3 (j + 1) a (shift j a z)) (fun _ _ z => .inl z) fun _ _ z => z
    | loc l =>
      cases i with
      | val d => exact skip (Γ' := Γ) rfl rl (fun j a z => h3 (j + 1) a (shift j a z)) (fun _ _ z => .inl z) fun _ _ z => z
      | bor d => exact skip (Γ' := Γ) rfl rl (fun j a z => h3 (j + 1) a (shift j a z)) (fun _ _ z => .inl z) fun _ _ z => z
      | own d =>
        obtain ⟨a, ha⟩ := h5 0 trivial
        have z0 : OwnIn (.own d :: is) vs 0 a := ⟨trivial, ha⟩
        have hσ := h1 0 a l z0 rfl
        refine skip (Γ' := Γ.set l o.en) rfl (rl.give hσ (h2 0 a z0) (h3 0 a z0)) (fun j b z ⟨k, hk⟩ => ?_) (fun k b z => ?_) fun k b z => ?_
        · rcases give_held hσ hk with ⟨_, e⟩ | hk
          · subst e
            have := h4 0 (j + 1) b z0 (shift j b z)
            omega
          · exact h3 (j + 1) b (shift j b z) ⟨k, hk⟩
        · rcases give_held hσ (.inl z) with ⟨e1, e2⟩ | hk
          · subst e1 e2
            exact .inr ⟨0, rfl, z0⟩
          · by_cases hl : l = k
            · subst hl
              have : σ[l]? = some (some (V.ref b)) := z.2
              rw [hσ] at this
              cases this
              exact .inr ⟨0, rfl, z0⟩
            · left
              obtain ⟨z1, z2⟩ := z
              rw [List.getElem?_set_ne hl] at z1
              exact ⟨z1, z2⟩
        · exact (set_bor (by cases o <;> exact fun z => z) z).1
theorem IReps.ref {is : List In} {vs : List V} (h : IReps T K H av is vs) {j : Nat} (z : InOwn is[j]?) : ∃ a, vs[j]? = some (V.ref a) ∧ av a ∧ ∃ u, H a = some u ∧ Wr u := by
  cases e : is[j]? with
  | none => rw [e] at z; exact z.elim
  | some i =>
    rw [e] at z
    cases i with
    | own o => obtain ⟨v, e1, p, e2, e3, e4⟩ := h.get e; exact ⟨p, by rw [e1, e2], e3, e4.wr⟩
    | _ => exact z.elim
/-- THE CALL: what a def makes of its arguments, seen from the caller -/
theorem call_sp2 {n : Nat} {f : Sem1} {rs : List R} {vs : List V} {is : List In} {rt : Rt} {os : List Out} {av0 : Av} {Γ0 : G} {Q : VK} {E : XK} (rl0 : Rel T K av0 Γ0 σ H0) (A : PostA T K σ av0 Γ0 H0 Γ1 rs vs H av) (hn : vs.length = n)
    (e1 : toIns Γ1 rs = some (is, Γ2)) (e2 : f is = some (rt, os)) (hq : ∀ v H' av', Post T K σ av0 Γ0 H0 (backs rs is os Γ2) rt.r v H' av' →
      (∀ (j : Nat) (o o' : OD) (a : Addr), rs[j]? = some (.fr o) → vs[j]? = some (.ref a) → os[j]? = some (.own o') → RRep T K H0 σ (backs rs is os Γ2) H' av' (.fr o') (.ref a)) → Q v H') : spOf T K n f vs H Q E := by
  obtain ⟨q1, q2, q3, q4, q5, q6, q7, q8⟩ := toIns_ok A.rel A.rep A.apt e1
  have mono := toIns_mono e1
  have mo : ∀ i a, OwnAt Γ2 σ i a → OwnAt Γ1 σ i a := fun i a z => by
    obtain ⟨o, e⟩ := isOwn_some z.1
    rcases mono i _ e with h | h
    · cases h
    · exact .mk' h z.2
  have mb : ∀ i a, BorAt Γ2 σ i a → BorAt Γ1 σ i a := fun i a z => by
    obtain ⟨o, e⟩ := isBor_some z.1
    rcases mono i _ e with h | h
    · cases h
    · exact .mk' h z.2
  refine (fun (key : ∀ v H' av', RetOk T K H av is vs rt os v H' av' → Post T K σ av0 Γ0 H0 (backs rs is os Γ2) rt.r v H' av' ∧ ∀ (j : Nat) (o o' : OD) (a : Addr), rs[j]? = some (.fr o) → vs[j]? = some (.ref a) → os[j]? = some (.own o') → RRep T K H0 σ (backs rs is os Γ2) H' av' (.fr o') (.ref a)) => ⟨hn, av, is, rt, os, ⟨q2.rep, q2.inj, A.rel.trk⟩, e2, fun v H' av' R => hq v H' av' (key v H' av' R).1 (key v H' av' R).2⟩) ?_
  intro v H' av' R
  -- an owner among the arguments was owned by a name, or is new
  have src : ∀ j a, OwnIn is vs j a → OwnS Γ0 σ a ∨ H0 a = none := fun j a z => by
    rcases q5 j a z with ⟨k, hk⟩ | ⟨o, ho⟩
    · cases hr : rs[j]? with
      | none =>
        have := A.rep.length
        obtain ⟨_, z2⟩ := z
        rw [List.getElem?_eq_none_iff] at hr
        rw [List.getElem?_eq_none (by omega)] at z2
        cases z2
      | some r =>
        cases r with
        | loc l => exact (A.fra.own l a (q6 j a z l hr).1).imp (fun z => ⟨l, z⟩) id
        | fr o =>
          obtain ⟨w, e4, p2, e6, _, _, h0, _⟩ := A.rep.get hr
          rw [z.2] at e4
          cases e4
          cases e6
          exact .inr h0
        | val d =>
          -- a value is no owner
          exfalso
          have hv := toIns_val e1 hr
          rw [OwnIn, hv] at z
          exact z.1
    · obtain ⟨w, e4, p2, e6, _, _, h0, _⟩ := A.rep.get ho
      rw [z.2] at e4
      cases e4
      cases e6
      exact .inr h0
  have kp : Kp av H av' H' := ⟨fun a o h w => R.keep a o h fun j z => by
    obtain ⟨b, z1, z2, u, z3, z4⟩ := q2.rep.ref z.1
    rw [z.2] at z1
    cases z1
    rw [h] at z3
    cases z3
    exact w.elim (fun w => w z4) fun w => w z2, R.av2⟩
  have rl2 : Rel T K av' Γ2 σ H' := by
    refine ⟨q1.len, fun j e he => ERep.kp (p := 0) kp (fun q hq hx => ?_) (q1.ent j e he), q1.inj, R.trk⟩
    have hh := heldAt_of he hq hx
    obtain ⟨_, u, hu, _⟩ := q1.heldAt hh
    have no : ∀ k, ¬ OwnIn is vs k q := fun k z => q2.out k q z ⟨j, hh⟩
    exact ⟨by rw [R.keep q u hu no, hu], fun z => R.av1 q z no⟩
  obtain ⟨b1, b2, b3⟩ := backs_ok (rs := rs) (os := os) (vs := vs) rl2 (fun j a l z q => (q6 j a z l q).1.2) R.out q2.out (fun i j a z z' => q2.inj i j a z (.inl z')) (fun j z => let ⟨a, h, _⟩ := q2.rep.ref z; ⟨a, h⟩)
  have newp : ∀ p, H p = none → ¬ Held (backs rs is os Γ2) σ p := fun p hp ⟨k, hk⟩ => by
    rcases hk with hk | hk
    · rcases b2 k p hk with z | ⟨j, _, z⟩
      · obtain ⟨_, u, hu, _⟩ := q1.heldAt (.inl z)
        rw [hp] at hu
        cases hu
      · obtain ⟨b, z1, _, u, z3, _⟩ := q2.rep.ref z.1
        rw [z.2] at z1
        cases z1
        rw [hp] at z3
        cases z3
    · obtain ⟨_, u, hu, _⟩ := q1.heldAt (.inr (b3 k p hk))
      rw [hp] at hu
      cases hu
  refine ⟨⟨b1, ?_, ⟨fun a o h n => ?_, fun a o h => ?_, fun a h n => ?_, fun a o h n => ?_, fun i a z => ?_, fun i a z => A.fra.bor i a (mb i a (b3 i a z))⟩⟩, fun j o o' a hr hv ho => ?_⟩
  · have ret := R.ret
    cases rt with
    | val d => exact ret
    | fr o => obtain ⟨p, e, h1, h2, h3⟩ := ret; exact ⟨p, e, h3, h2, A.fra.free h1, newp p h1⟩
  · exact R.keep a o (A.fra.keep a o h n) fun j z => (src j a z).elim n fun q => by rw [h] at q; cases q
  · obtain ⟨o', h'⟩ := A.fra.thr a o h; exact R.thr a o' h'
  · obtain ⟨o, ho⟩ := rl0.trk a h
    exact R.av1 a (A.fra.av1 a h n) fun j z => (src j a z).elim n fun q => by rw [ho] at q; cases q
  · have no : ¬ OwnS Γ0 σ a := fun z => n (rl0.ownS z).1
    exact R.av2 a o (A.fra.keep a o h no) (A.fra.av2 a o h n)
  · rcases b2 i a z with z | ⟨j, z1, z2⟩
    · exact A.fra.own i a (mo i a z)
    · exact A.fra.own i a (q6 j a z2 i z1).1
  · obtain ⟨w, e4, p2, e6, _, _, h0, h1⟩ := A.rep.get hr
    rw [hv] at e4
    cases e4
    cases e6
    have z0 : OwnIn is vs j a := ⟨by rw [toIns_fr e1 hr]; trivial, hv⟩
    have oo := R.out j a z0
    rw [ho] at oo
    refine ⟨a, rfl, oo.2, oo.1, h0, fun ⟨k, hk⟩ => ?_⟩
    rcases hk with hk | hk
    · rcases b2 k a hk with z | ⟨j', z1, z2⟩
      · exact q2.out j a z0 ⟨k, .inl z⟩
      · have := q2.inj j j' a z0 (.inl z2)
        subst this
        rw [hr] at z1
        cases z1
    · exact q2.out j a z0 ⟨k, .inr (b3 k a hk)⟩
theorem call_sp {n : Nat} {f : Sem1} {rs : List R} {vs : List V} {is : List In} {rt : Rt} {os : List Out} {av0 : Av} {Γ0 : G} {Q : VK} {E : XK} (rl0 : Rel T K av0 Γ0 σ H0) (A : PostA T K σ av0 Γ0 H0 Γ1 rs vs H av) (hn : vs.length = n)
    (e1 : toIns Γ1 rs = some (is, Γ2)) (e2 : f is = some (rt, os)) (hq : ∀ v H' av', Post T K σ av0 Γ0 H0 (backs rs is os Γ2) rt.r v H' av' → Q v H') : spOf T K n f vs H Q E :=
  call_sp2 rl0 A hn e1 e2 fun v H' av' P _ => hq v H' av' P
end
end Mi

namespace Mi
open PySem PySem.Spec L2
open PyProof.Rows hiding St

/-! ## readings by data -/
structure PostN (T : Cls2) (K : PySem.W.Frag) (σ : St) (av : Av) (Γ : G) (H : Hp) (Γ' : G) (H' : Hp) (av' : Av) : Prop where
  rel : Rel T K av' Γ' σ H'
  fra : Fra σ Γ av H σ Γ' av' H'
structure PostF (T : Cls2) (K : PySem.W.Frag) (σ : St) (av : Av) (Γ : G) (H : Hp) (Γ' : G) (ds : List D) (vs : List V) (H' : Hp) (av' : Av) : Prop where
  rel : Rel T K av' Γ' σ H'
  rep : Reps T K H' av' ds vs
  fra : Fra σ Γ av H σ Γ' av' H'
section
variable {T : Cls2} {K : PySem.W.Frag} {σ : St} {av av' : Av} {Γ Γ' : G} {H H' : Hp} {d : D} {v : V}
theorem Post.dat (P : Post T K σ av Γ H Γ' (.val d) v H' av') : Rep T K H' av' d v := P.rep
theorem Post.vr (P : Post T K σ av Γ H Γ' (.val d) v H' av') : VRep T K H' av' d v := P.dat.vrep
end
section
variable (T : Cls2) (K : PySem.W.Frag)
def tE (f : G → Option (R × G)) : TE := fun σ H Q => ∃ av Γ r Γ', Rel T K av Γ σ H ∧ f Γ = some (r, Γ') ∧ ∀ v H' av', Post T K σ av Γ H Γ' r v H' av' → Q v H'
def tT (f : G → Option (Bool × G)) : TT := fun σ H Q => ∃ av Γ b Γ', Rel T K av Γ σ H ∧ f Γ = some (b, Γ') ∧ ∀ H' av', PostN T K σ av Γ H Γ' H' av' → Q b H'
def tA (f : G → Option (List R × G)) : TA := fun σ H Q => ∃ av Γ rs Γ', Rel T K av Γ σ H ∧ f Γ = some (rs, Γ') ∧ ∀ vs H' av', PostA T K σ av Γ H Γ' rs vs H' av' → Q vs H'
def tF (f : G → Option (List D × G)) : TA := fun σ H Q => ∃ av Γ ds Γ', Rel T K av Γ σ H ∧ f Γ = some (ds, Γ') ∧ ∀ vs H' av', PostF T K σ av Γ H Γ' ds vs H' av' → Q vs H'
def tO (f : G → Option (Option Int × G)) : TO := fun σ H Q => ∃ av Γ o Γ', Rel T K av Γ σ H ∧ f Γ = some (o, Γ') ∧ ∀ H' av', PostN T K σ av Γ H Γ' H' av' → Q o H'
end
theorem _root_.L2.PE.imp {X : Cx} {e : Expr} {t t' : TE} (h : PE X e t) (k : ∀ σ H Q, t' σ H Q → t σ H Q) : PE X e t' := ⟨fun pins s σ H Q I q => h.run pins s σ H Q I (k σ H Q q)⟩
theorem _root_.L2.PT.imp {X : Cx} {e : Expr} {t t' : TT} (h : PT X e t) (k : ∀ σ H Q, t' σ H Q → t σ H Q) : PT X e t' := ⟨fun pins s σ H Q I q => h.run pins s σ H Q I (k σ H Q q)⟩
theorem _root_.L2.PW.imp {X : Cx} {e : Expr} {t t' : TT} (h : PW X e t) (k : ∀ σ H Q, t' σ H Q → t σ H Q) : PW X e t' := ⟨fun wh pins s σ H Q I q => h.run wh pins s σ H Q I (k σ H Q q)⟩
theorem _root_.L2.PA.imp {X : Cx} {e : List Expr} {t t' : TA} (h : PA X e t) (k : ∀ σ H Q, t' σ H Q → t σ H Q) : PA X e t' := ⟨fun pos pins s σ H Q I q => h.run pos pins s σ H Q I (k σ H Q q)⟩
theorem _root_.L2.PK.imp {X : Cx} {e : List Keyword} {t t' : TA} (h : PK X e t) (k : ∀ σ H Q, t' σ H Q → t σ H Q) : PK X e t' := ⟨fun pos pins s σ H Q I q => h.run pos pins s σ H Q I (k σ H Q q)⟩
theorem _root_.L2.PO.imp {X : Cx} {e : Option Expr} {t t' : TO} (h : PO X e t) (k : ∀ σ H Q, t' σ H Q → t σ H Q) : PO X e t' := ⟨fun pins s σ H Q I q => h.run pins s σ H Q I (k σ H Q q)⟩
theorem _root_.L2.PI.imp {X : Cx} {tg e : Expr} {t t' : TI} (h : PI X tg e t) (k : ∀ σ H Q, t' σ H Q → t σ H Q) : PI X tg e t' := ⟨fun pins s σ H Q I q => h.run pins s σ H Q I (k σ H Q q)⟩
theorem _root_.L2.PS.imp {X : Cx} {e : Stmt} {t t' : TS} (h : PS X e t) (k : ∀ D σ H, t' D σ H → t D σ H) : PS X e t' := ⟨fun pins s σ H D I q => h.run pins s σ H D I (k D σ H q)⟩
theorem _root_.L2.PSs.imp {X : Cx} {e : List Stmt} {t t' : TS} (h : PSs X e t) (k : ∀ D σ H, t' D σ H → t D σ H) : PSs X e t' := ⟨fun pins s σ H D I q => h.run pins s σ H D I (k D σ H q)⟩
abbrev SE (T : Cls2) (X : Cx) (e : Expr) (f : G → Option (R × G)) : Prop := PE X e (tE T X.K f)
abbrev SA (T : Cls2) (X : Cx) (e : List Expr) (f : G → Option (List R × G)) : Prop := PA X e (tA T X.K f)
abbrev SF (T : Cls2) (X : Cx) (e : List Expr) (f : G → Option (List D × G)) : Prop := PA X e (tF T X.K f)
abbrev SK (T : Cls2) (X : Cx) (e : List Keyword) (f : G → Option (List R × G)) : Prop := PK X e (tA T X.K f)
abbrev SO (T : Cls2) (X : Cx) (e : Option Expr) (f : G → Option (Option Int × G)) : Prop := PO X e (tO T X.K f)
structure ST (T : Cls2) (X : Cx) (e : Expr) (f : G → Option (Bool × G)) : Prop where
  pt : PT X e (tT T X.K f)
  pw : ∀ op l p, e = .BoolOp op l p → PW X e (tT T X.K f)
theorem ST.of {T : Cls2} {X : Cx} {e : Expr} {f : G → Option (Bool × G)} (h : PT X e (tT T X.K f)) (n : ∀ op l p, e ≠ .BoolOp op l p) : ST T X e f := ⟨h, fun op l p z => absurd z (n op l p)⟩

/-! ### which expressions are plain ones -/
def plainE : Expr → Bool
  | .Starred .. => false
  | .Slice .. => false
  | .Set .. => false
  | .NamedExpr .. => false
  | _ => true
theorem star_eq {e : Expr} (h : plainE e = true) (es : List Expr) (env : Env) : starEach (e :: es) env = (false, eval e env) :: starEach es env := by
  cases e <;> first | rfl | cases h
theorem stars_no : ∀ {es : List Expr} (env : Env) (pos : Pos), es.all plainE = true → (backTo pos (starEach es env)).any (·.1) = false
  | [], _, _, _ => rfl
  | e :: es, env, pos, h => by
    rw [List.all_cons, Bool.and_eq_true] at h
    rw [star_eq h.1]
    show (false || (backTo pos (starEach es env)).any (·.1)) = false
    rw [stars_no env pos h.2]
    rfl
theorem plainIx {e : Expr} (h : plainE e = true) : PlainIx e := by
  intro o i
  cases e <;> first | rfl | cases h
theorem noMark {e : Expr} (h : plainE e = true) (op : CmpOp) : behindInMarks op e = false := by
  cases e <;> first | rfl | cases h
theorem notFold {e : Expr} (h : plainE e = true) (env : Env) (x : Value) : foldedSetIterable e env x = pure x := by
  cases e <;> first | rfl | cases h

section
variable {X : Cx} {T : Cls2} {C : Ctx} {pos : Pos} {x y z : Expr} {a b c : E}
theorem se_var {i : Nat} {n : Str} (hN : X.N[i]? = some n) (hv : Vis X.env.scope n) (hd : (n == ("__debug__" : Str)) = false) (hcd : (n == ("__classdict__" : Str)) = false) : SE T X (.Name n pos) (ev C (.var i)) := by
  refine (pe_var hN hv hd hcd).imp fun σ H Q ⟨av, Γ, r, Γ', rl, e, q⟩ => ?_
  rw [ev] at e
  obtain ⟨r', e1, e2⟩ := Option.map_eq_some_iff.mp e
  cases e2
  unfold geti at e1
  split at e1
  · rename_i d hd
    cases e1
    obtain ⟨v, h1, h2⟩ := rl.ent _ _ hd
    exact ⟨v, h1, q v H av ⟨rl, h2, Fra.refl⟩⟩
  · rename_i o ho
    cases e1
    obtain ⟨p, h1, h2, h3⟩ := rl.own ho
    exact ⟨_, h1, q _ H av ⟨rl, ⟨p, rfl, h1⟩, Fra.refl⟩⟩
  · rename_i o ho
    cases e1
    obtain ⟨p, h1, h2, h3⟩ := rl.bor ho
    exact ⟨_, h1, q _ H av ⟨rl, ⟨p, rfl, h1⟩, Fra.refl⟩⟩
  · cases e1
theorem se_val {e : Expr} {v : V} {d : D} (h : PE X e (tC v)) (r : ∀ H av, Rep T X.K H av d v) : SE T X e (fun Γ => some (.val d, Γ)) :=
  h.imp fun σ H Q ⟨av, Γ, _, _, rl, e, q⟩ => by
    cases e
    exact q v H av ⟨rl, r H av, Fra.refl⟩
theorem se_bin (op : Operator) (ha : SE T X x (ev C a)) (hb : SE T X y (ev C b)) : SE T X (.BinOp x op y pos) (ev C (.bin op a b)) := by
  refine (pe_op (bop_ok T op) ha hb).imp fun σ H Q ⟨av, Γ, r, Γ', rl, e, q⟩ => ?_
  rw [ev] at e
  obtain ⟨⟨ra, Γ1⟩, e1, e⟩ := Option.bind_eq_some_iff.mp e
  obtain ⟨⟨rb, Γ2⟩, e2, e⟩ := Option.bind_eq_some_iff.mp e
  obtain ⟨dx, e3, e⟩ := Option.bind_eq_some_iff.mp e
  obtain ⟨dy, e4, e⟩ := Option.bind_eq_some_iff.mp e
  obtain ⟨r0, e5, e⟩ := Option.map_eq_some_iff.mp e
  cases e
  exact ⟨av, Γ, ra, Γ1, rl, e1, fun va H1 av1 P1 => ⟨av1, Γ1, rb, _, P1.rel, e2, fun vb H2 av2 P2 =>
    ⟨av2, dx, dy, _, look_ok P2.rel (P1.rep.fra P1.rel P2.fra) e3, look_ok P2.rel P2.rep e4, e5, fun w H' av' R => q _ _ _ (R.post rl P2.rel (P1.fra.trans rl P2.fra))⟩⟩⟩
theorem se_neg (ha : SE T X x (ev C a)) : SE T X (.UnaryOp .USub x pos) (ev C (.neg a)) := by
  refine (pe_un un_neg ha).imp fun σ H Q ⟨av, Γ, r, Γ', rl, e, q⟩ => ?_
  rw [ev] at e
  obtain ⟨⟨ra, Γ1⟩, e1, e⟩ := Option.bind_eq_some_iff.mp e
  simp only at e
  split at e
  · rename_i i
    cases e
    refine ⟨av, Γ, _, _, rl, e1, fun va H1 av1 P1 => ⟨i, vint (P1.vr), q _ _ _ (P1.rel.post0 P1.fra rint)⟩⟩
  · cases e
theorem se_not (ha : SE T X x (ev C a)) : SE T X (.UnaryOp .Not x pos) (ev C (.not_ a)) := by
  refine (pe_notT ha).imp fun σ H Q ⟨av, Γ, r, Γ', rl, e, q⟩ => ?_
  rw [ev] at e
  obtain ⟨⟨ra, Γ1⟩, e1, e⟩ := Option.bind_eq_some_iff.mp e
  obtain ⟨dx, e3, e⟩ := Option.bind_eq_some_iff.mp e
  obtain ⟨b, e5, e⟩ := Option.map_eq_some_iff.mp e
  cases e
  exact ⟨av, Γ, _, _, rl, e1, fun va H1 av1 P1 => ⟨b, tru_of (look_ok P1.rel P1.rep e3) e5, q _ _ _ (P1.rel.post0 P1.fra rbl)⟩⟩
theorem se_cmp (op : CmpOp) (hu : X.A.units + 64 < cLine) (ha : SE T X x (ev C a)) (hb : SE T X y (ev C b)) (p : plainE y = true) : SE T X (.Compare x [op] [y] pos) (ev C (.cmp op a b)) := by
  refine (pe_cmpR (cop_ok T hu op) ha hb (noMark p op)).imp fun σ H Q ⟨av, Γ, r, Γ', rl, e, q⟩ => ?_
  rw [ev] at e
  obtain ⟨⟨ra, Γ1⟩, e1, e⟩ := Option.bind_eq_some_iff.mp e
  obtain ⟨⟨rb, Γ2⟩, e2, e⟩ := Option.bind_eq_some_iff.mp e
  obtain ⟨dx, e3, e⟩ := Option.bind_eq_some_iff.mp e
  obtain ⟨dy, e4, e⟩ := Option.bind_eq_some_iff.mp e
  obtain ⟨r0, e5, e⟩ := Option.map_eq_some_iff.mp e
  cases e
  exact ⟨av, Γ, ra, Γ1, rl, e1, fun va H1 av1 P1 => ⟨av1, Γ1, rb, _, P1.rel, e2, fun vb H2 av2 P2 =>
    ⟨av2, dx, dy, _, look_ok P2.rel (P1.rep.fra P1.rel P2.fra) e3, look_ok P2.rel P2.rep e4, e5, q _ _ _ (P2.rel.post0 (P1.fra.trans rl P2.fra) rbl)⟩⟩⟩
theorem st_cmp (op : CmpOp) (hu : X.A.units + 64 < cLine) (ha : SE T X x (ev C a)) (hb : SE T X y (ev C b)) (p : plainE y = true) : PT X (.Compare x [op] [y] pos) (tT T X.K (evT C (.cmp op a b))) := by
  refine (pt_cmpR (cop_ok T hu op) ha hb (noMark p op)).imp fun σ H Q ⟨av, Γ, r, Γ', rl, e, q⟩ => ?_
  rw [evT] at e
  obtain ⟨⟨ra, Γ1⟩, e1, e⟩ := Option.bind_eq_some_iff.mp e
  obtain ⟨⟨rb, Γ2⟩, e2, e⟩ := Option.bind_eq_some_iff.mp e
  obtain ⟨dx, e3, e⟩ := Option.bind_eq_some_iff.mp e
  obtain ⟨dy, e4, e⟩ := Option.bind_eq_some_iff.mp e
  obtain ⟨r0, e5, e⟩ := Option.map_eq_some_iff.mp e
  cases e
  exact ⟨av, Γ, ra, Γ1, rl, e1, fun va H1 av1 P1 => ⟨av1, Γ1, rb, _, P1.rel, e2, fun vb H2 av2 P2 =>
    ⟨av2, dx, dy, _, look_ok P2.rel (P1.rep.fra P1.rel P2.fra) e3, look_ok P2.rel P2.rep e4, e5, _, rfl, q _ _ ⟨P2.rel, P1.fra.trans rl P2.fra⟩⟩⟩⟩
theorem lastNo (o1 o2 : CmpOp) {y z : Expr} (p : plainE z = true) : lastMarks [o1, o2] [y, z] = false := noMark p o2
theorem se_chn (o1 o2 : CmpOp) (hu : X.A.units + 64 < cLine) (ha : SE T X x (ev C a)) (hb : SE T X y (ev C b)) (hc : SE T X z (ev C c)) (p : plainE z = true) : SE T X (.Compare x [o1, o2] [y, z] pos) (ev C (.chn o1 o2 a b c)) := by
  refine (pe_chain (cop_ok T hu o1) (cop_ok T hu o2) ha hb hc (lastNo o1 o2 p)).imp fun σ H Q ⟨av, Γ, r, Γ', rl, e, q⟩ => ?_
  rw [ev] at e
  obtain ⟨⟨ra, Γ1⟩, e1, e⟩ := Option.bind_eq_some_iff.mp e
  obtain ⟨⟨rb, Γ2⟩, e2, e⟩ := Option.bind_eq_some_iff.mp e
  obtain ⟨dx, e3, e⟩ := Option.bind_eq_some_iff.mp e
  obtain ⟨dy, e4, e⟩ := Option.bind_eq_some_iff.mp e
  obtain ⟨t, e5, e⟩ := Option.bind_eq_some_iff.mp e
  refine ⟨av, Γ, ra, Γ1, rl, e1, fun va H1 av1 P1 => ⟨av1, Γ1, rb, _, P1.rel, e2, fun vb H2 av2 P2 =>
    ⟨av2, dx, dy, _, look_ok P2.rel (P1.rep.fra P1.rel P2.fra) e3, look_ok P2.rel P2.rep e4, e5, t, rfl, ?_⟩⟩⟩
  cases t with
  | false =>
    cases e
    exact q _ _ _ (P2.rel.post0 (P1.fra.trans rl P2.fra) rbl)
  | true =>
    obtain ⟨⟨rc, Γ3⟩, e6, e⟩ := Option.bind_eq_some_iff.mp e
    obtain ⟨dy', e7, e⟩ := Option.bind_eq_some_iff.mp e
    obtain ⟨dz, e8, e⟩ := Option.bind_eq_some_iff.mp e
    obtain ⟨r0, e9, e⟩ := Option.map_eq_some_iff.mp e
    cases e
    exact ⟨av2, _, rc, _, P2.rel, e6, fun vc H3 av3 P3 => ⟨av3, dy', dz, _, look_ok P3.rel (P2.rep.fra P2.rel P3.fra) e7, look_ok P3.rel P3.rep e8, e9, q _ _ _ (P3.rel.post0 ((P1.fra.trans rl P2.fra).trans rl P3.fra) rbl)⟩⟩
theorem st_chn (o1 o2 : CmpOp) (hu : X.A.units + 64 < cLine) (ha : SE T X x (ev C a)) (hb : SE T X y (ev C b)) (hc : SE T X z (ev C c)) (p : plainE z = true) : PT X (.Compare x [o1, o2] [y, z] pos) (tT T X.K (evT C (.chn o1 o2 a b c))) := by
  refine (pt_chain (cop_ok T hu o1) (cop_ok T hu o2) ha hb hc (lastNo o1 o2 p)).imp fun σ H Q ⟨av, Γ, r, Γ', rl, e, q⟩ => ?_
  rw [evT] at e
  obtain ⟨⟨ra, Γ1⟩, e1, e⟩ := Option.bind_eq_some_iff.mp e
  obtain ⟨⟨rb, Γ2⟩, e2, e⟩ := Option.bind_eq_some_iff.mp e
  obtain ⟨dx, e3, e⟩ := Option.bind_eq_some_iff.mp e
  obtain ⟨dy, e4, e⟩ := Option.bind_eq_some_iff.mp e
  obtain ⟨t, e5, e⟩ := Option.bind_eq_some_iff.mp e
  refine ⟨av, Γ, ra, Γ1, rl, e1, fun va H1 av1 P1 => ⟨av1, Γ1, rb, _, P1.rel, e2, fun vb H2 av2 P2 =>
    ⟨av2, dx, dy, _, look_ok P2.rel (P1.rep.fra P1.rel P2.fra) e3, look_ok P2.rel P2.rep e4, e5, t, rfl, ?_⟩⟩⟩
  cases t with
  | false =>
    cases e
    exact ⟨_, rfl, q _ _ ⟨P2.rel, P1.fra.trans rl P2.fra⟩⟩
  | true =>
    obtain ⟨⟨rc, Γ3⟩, e6, e⟩ := Option.bind_eq_some_iff.mp e
    obtain ⟨dy', e7, e⟩ := Option.bind_eq_some_iff.mp e
    obtain ⟨dz, e8, e⟩ := Option.bind_eq_some_iff.mp e
    obtain ⟨r0, e9, e⟩ := Option.map_eq_some_iff.mp e
    cases e
    exact ⟨av2, _, rc, _, P2.rel, e6, fun vc H3 av3 P3 => ⟨av3, dy', dz, _, look_ok P3.rel (P2.rep.fra P2.rel P3.fra) e7, look_ok P3.rel P3.rep e8, e9, _, rfl, q _ _ ⟨P3.rel, (P1.fra.trans rl P2.fra).trans rl P3.fra⟩⟩⟩
/-- the rest of a row of and, or -/
def boolR (op : BoolOp) (y : Expr) (r : List Expr) (p : Pos) : Expr := match r with
  | [] => y
  | _ => .BoolOp op (y :: r) p
theorem se_boolR {op : BoolOp} {y : Expr} {r : List Expr} {t : TE} (h : PE X (boolR op y r pos) t) : PE X (.BoolOp op (y :: r) pos) t := by
  cases r with
  | nil => exact pe_one h
  | cons z r => exact h
theorem st_and1 {y : Expr} {r : List Expr} {t : G → Option (Bool × G)} (h : ST T X (boolR .And y r pos) t) : PW X (.BoolOp .And (y :: r) pos) (tT T X.K t) := by
  cases r with
  | nil => exact pw_and1 h.pt
  | cons z r => exact h.pw _ _ _ rfl
theorem st_or1 {y : Expr} {r : List Expr} {t : G → Option (Bool × G)} (h : ST T X (boolR .Or y r pos) t) : PW X (.BoolOp .Or (y :: r) pos) (tT T X.K t) := by
  cases r with
  | nil => exact pw_or1 h.pt
  | cons z r => exact h.pw _ _ _ rfl
theorem se_and {r : List Expr} (ha : SE T X x (ev C a)) (hb : SE T X (boolR .And y r pos) (ev C b)) : SE T X (.BoolOp .And (x :: y :: r) pos) (ev C (.and_ a b)) := by
  refine (pe_and ha (se_boolR hb)).imp fun σ H Q ⟨av, Γ, rr, Γ', rl, e, q⟩ => ?_
  rw [ev] at e
  obtain ⟨⟨ra, Γ1⟩, e1, e⟩ := Option.bind_eq_some_iff.mp e
  simp only at e
  split at e
  · exact ⟨av, Γ, _, _, rl, e1, fun va H1 av1 P1 => ⟨true, vbl (P1.vr), ⟨av1, Γ1, rr, Γ', P1.rel, e, fun vb H2 av2 P2 => q _ _ _ ⟨P2.rel, P2.rep.older fun a h => P1.fra.free h, P1.fra.trans rl P2.fra⟩⟩⟩⟩
  · cases e
    exact ⟨av, Γ, _, _, rl, e1, fun va H1 av1 P1 => ⟨false, vbl (P1.vr), q _ _ _ (P1.rel.post0 P1.fra rbl)⟩⟩
  · cases e
theorem se_or {r : List Expr} (ha : SE T X x (ev C a)) (hb : SE T X (boolR .Or y r pos) (ev C b)) : SE T X (.BoolOp .Or (x :: y :: r) pos) (ev C (.or_ a b)) := by
  refine (pe_or ha (se_boolR hb)).imp fun σ H Q ⟨av, Γ, rr, Γ', rl, e, q⟩ => ?_
  rw [ev] at e
  obtain ⟨⟨ra, Γ1⟩, e1, e⟩ := Option.bind_eq_some_iff.mp e
  simp only at e
  split at e
  · exact ⟨av, Γ, _, _, rl, e1, fun va H1 av1 P1 => ⟨false, vbl (P1.vr), ⟨av1, Γ1, rr, Γ', P1.rel, e, fun vb H2 av2 P2 => q _ _ _ ⟨P2.rel, P2.rep.older fun a h => P1.fra.free h, P1.fra.trans rl P2.fra⟩⟩⟩⟩
  · cases e
    exact ⟨av, Γ, _, _, rl, e1, fun va H1 av1 P1 => ⟨true, vbl (P1.vr), q _ _ _ (P1.rel.post0 P1.fra rbl)⟩⟩
  · cases e
theorem st_and {r : List Expr} (ha : ST T X x (evT C a)) (hb : ST T X (boolR .And y r pos) (evT C b)) : PW X (.BoolOp .And (x :: y :: r) pos) (tT T X.K (evT C (.and_ a b))) := by
  refine (pw_and ha.pt (st_and1 hb)).imp fun σ H Q ⟨av, Γ, rr, Γ', rl, e, q⟩ => ?_
  rw [evT] at e
  obtain ⟨⟨t, Γ1⟩, e1, e⟩ := Option.bind_eq_some_iff.mp e
  refine ⟨av, Γ, t, Γ1, rl, e1, fun H1 av1 P1 => ?_⟩
  cases t with
  | true => exact ⟨av1, Γ1, rr, Γ', P1.rel, e, fun H2 av2 P2 => q _ _ ⟨P2.rel, P1.fra.trans rl P2.fra⟩⟩
  | false =>
    cases e
    exact q _ _ P1
theorem st_or {r : List Expr} (ha : ST T X x (evT C a)) (hb : ST T X (boolR .Or y r pos) (evT C b)) : PW X (.BoolOp .Or (x :: y :: r) pos) (tT T X.K (evT C (.or_ a b))) := by
  refine (pw_or ha.pt (st_or1 hb)).imp fun σ H Q ⟨av, Γ, rr, Γ', rl, e, q⟩ => ?_
  rw [evT] at e
  obtain ⟨⟨t, Γ1⟩, e1, e⟩ := Option.bind_eq_some_iff.mp e
  refine ⟨av, Γ, t, Γ1, rl, e1, fun H1 av1 P1 => ?_⟩
  cases t with
  | false => exact ⟨av1, Γ1, rr, Γ', P1.rel, e, fun H2 av2 P2 => q _ _ ⟨P2.rel, P1.fra.trans rl P2.fra⟩⟩
  | true =>
    cases e
    exact q _ _ P1
theorem st_not (ha : ST T X x (evT C a)) : PT X (.UnaryOp .Not x pos) (tT T X.K (evT C (.not_ a))) := by
  refine (pt_not ha.pt).imp fun σ H Q ⟨av, Γ, rr, Γ', rl, e, q⟩ => ?_
  rw [evT] at e
  obtain ⟨⟨t, Γ1⟩, e1, e⟩ := Option.map_eq_some_iff.mp e
  cases e
  exact ⟨av, Γ, t, _, rl, e1, fun H1 av1 P1 => q _ _ P1⟩
theorem se_ite (hc : ST T X z (evT C c)) (ha : SE T X x (ev C a)) (hb : SE T X y (ev C b)) : SE T X (.IfExp z x y pos) (ev C (.ite c a b)) := by
  refine (pe_ifExp hc.pt ha hb).imp fun σ H Q ⟨av, Γ, rr, Γ', rl, e, q⟩ => ?_
  rw [ev] at e
  obtain ⟨⟨t, Γ1⟩, e1, e⟩ := Option.bind_eq_some_iff.mp e
  refine ⟨av, Γ, t, Γ1, rl, e1, fun H1 av1 P1 => ?_⟩
  cases t with
  | true => exact ⟨av1, Γ1, rr, Γ', P1.rel, e, fun v H2 av2 P2 => q _ _ _ ⟨P2.rel, P2.rep.older fun a h => P1.fra.free h, P1.fra.trans rl P2.fra⟩⟩
  | false => exact ⟨av1, Γ1, rr, Γ', P1.rel, e, fun v H2 av2 P2 => q _ _ _ ⟨P2.rel, P2.rep.older fun a h => P1.fra.free h, P1.fra.trans rl P2.fra⟩⟩
/-- any expression whose test is its value's truth -/
theorem st_truth (ha : SE T X x (ev C a)) (he : ∀ whole, isTrue x X.env whole = (do let v ← whole; standAt x.pos; holding [v] (truthy v))) :
    PT X x (tT T X.K fun Γ => (ev C a Γ).bind fun (r, Γ1) => (look Γ1 r).bind fun d => (tru d).map fun b => (b, Γ1)) := by
  refine (pt_truth ha he).imp fun σ H Q ⟨av, Γ, rr, Γ', rl, e, q⟩ => ?_
  obtain ⟨⟨ra, Γ1⟩, e1, e⟩ := Option.bind_eq_some_iff.mp e
  obtain ⟨dx, e3, e⟩ := Option.bind_eq_some_iff.mp e
  obtain ⟨b, e5, e⟩ := Option.map_eq_some_iff.mp e
  cases e
  exact ⟨av, Γ, _, _, rl, e1, fun va H1 av1 P1 => ⟨_, tru_of (look_ok P1.rel P1.rep e3) e5, q _ _ ⟨P1.rel, P1.fra⟩⟩⟩
theorem st_none {e : Expr} {f : G → Option (Bool × G)} (h : ∀ Γ, f Γ = none) : PT X e (tT T X.K f) := ⟨fun pins s σ H Q I ⟨av, Γ, b, Γ', rl, e, q⟩ => by rw [h] at e; cases e⟩
/-! ### arguments -/
theorem sf_nil : SF T X [] (evF C .nil) := by
  refine pa_nil.imp fun σ H Q ⟨av, Γ, ds, Γ', rl, e, q⟩ => ?_
  rw [evF] at e
  cases e
  exact q [] H av ⟨rl, .nil, Fra.refl⟩
theorem sf_cons {es : Es} {xs : List Expr} (ha : SE T X x (ev C a)) (hs : SF T X xs (evF C es)) (p : plainE x = true) : SF T X (x :: xs) (evF C (.cons a es)) := by
  refine (pa_cons ha hs (star_eq p xs X.env)).imp fun σ H Q ⟨av, Γ, ds, Γ', rl, e, q⟩ => ?_
  rw [evF] at e
  obtain ⟨⟨ra, Γ1⟩, e1, e⟩ := Option.bind_eq_some_iff.mp e
  obtain ⟨⟨d, Γ2⟩, e2, e⟩ := Option.bind_eq_some_iff.mp e
  obtain ⟨⟨ds', Γ3⟩, e3, e⟩ := Option.map_eq_some_iff.mp e
  cases e
  refine ⟨av, Γ, ra, Γ1, rl, e1, fun va H1 av1 P1 => ?_⟩
  obtain ⟨av2, P2⟩ := frz_ok rl P1 e2
  exact ⟨av2, Γ2, ds', _, P2.rel, e3, fun vs H3 av3 P3 => q _ _ _ ⟨P3.rel, .cons (Rep.kp (P3.fra.kp P2.rel) P2.dat) P3.rep, P2.fra.trans rl P3.fra⟩⟩
theorem sa_nil {acc : List Bool} : SA T X [] (evA C .nil acc) := by
  refine pa_nil.imp fun σ H Q ⟨av, Γ, ds, Γ', rl, e, q⟩ => ?_
  rw [evA] at e
  cases e
  exact q [] H av (.nil rl)
theorem acc_ok {σ : St} {H H1 : Hp} {av av1 : Av} {Γ Γ1 Γ2 : G} {acc : List Bool} {r r' : R} {v : V} (rl : Rel T X.K av Γ σ H) (P : Post T X.K σ av Γ H Γ1 r v H1 av1) (e : accR acc Γ1 r = some (r', Γ2)) : ∃ av2, Post T X.K σ av Γ H Γ2 r' v H1 av2 := by
  unfold accR at e
  split at e
  · obtain ⟨⟨d, Γ3⟩, e1, e2⟩ := Option.map_eq_some_iff.mp e
    cases e2
    exact frz_ok rl P e1
  · cases e
    exact ⟨av1, P⟩
theorem sa_cons {es : Es} {xs : List Expr} {acc : List Bool} (ha : SE T X x (ev C a)) (hs : SA T X xs (evA C es acc.tail)) (p : plainE x = true) : SA T X (x :: xs) (evA C (.cons a es) acc) := by
  refine (pa_cons ha hs (star_eq p xs X.env)).imp fun σ H Q ⟨av, Γ, ds, Γ', rl, e, q⟩ => ?_
  rw [evA] at e
  obtain ⟨⟨ra, Γ1⟩, e1, e⟩ := Option.bind_eq_some_iff.mp e
  obtain ⟨⟨d, Γ2⟩, e2, e⟩ := Option.bind_eq_some_iff.mp e
  obtain ⟨⟨ds', Γ3⟩, e3, e⟩ := Option.map_eq_some_iff.mp e
  cases e
  refine ⟨av, Γ, ra, Γ1, rl, e1, fun va H1 av1 P1 => ?_⟩
  obtain ⟨av2, P2⟩ := acc_ok rl P1 e2
  exact ⟨av2, Γ2, ds', _, P2.rel, e3, fun vs H3 av3 P3 => q _ _ _ (P3.cons rl P2)⟩
theorem sk_nil {acc : List Bool} : SK T X [] (evA C .nil acc) := by
  refine pk_nil.imp fun σ H Q ⟨av, Γ, ds, Γ', rl, e, q⟩ => ?_
  rw [evA] at e
  cases e
  exact q [] H av (.nil rl)
theorem sk_cons {es : Es} {xs : List Keyword} {acc : List Bool} {n : Option Str} {kp : Pos} (ha : SE T X x (ev C a)) (hs : SK T X xs (evA C es acc.tail)) : SK T X (⟨n, x, kp⟩ :: xs) (evA C (.cons a es) acc) := by
  refine (pk_cons ha hs).imp fun σ H Q ⟨av, Γ, ds, Γ', rl, e, q⟩ => ?_
  rw [evA] at e
  obtain ⟨⟨ra, Γ1⟩, e1, e⟩ := Option.bind_eq_some_iff.mp e
  obtain ⟨⟨d, Γ2⟩, e2, e⟩ := Option.bind_eq_some_iff.mp e
  obtain ⟨⟨ds', Γ3⟩, e3, e⟩ := Option.map_eq_some_iff.mp e
  cases e
  refine ⟨av, Γ, ra, Γ1, rl, e1, fun va H1 av1 P1 => ?_⟩
  obtain ⟨av2, P2⟩ := acc_ok rl P1 e2
  exact ⟨av2, Γ2, ds', _, P2.rel, e3, fun vs H3 av3 P3 => q _ _ _ (P3.cons rl P2)⟩
theorem so_none : SO T X none (evO C .non) := by
  refine po_none.imp fun σ H Q ⟨av, Γ, ds, Γ', rl, e, q⟩ => ?_
  rw [evO] at e
  cases e
  exact q H av ⟨rl, Fra.refl⟩
theorem so_some (ha : SE T X x (ev C a)) : SO T X (some x) (evO C (.som a)) := by
  refine (po_some ha).imp fun σ H Q ⟨av, Γ, ds, Γ', rl, e, q⟩ => ?_
  rw [evO] at e
  obtain ⟨⟨ra, Γ1⟩, e1, e⟩ := Option.bind_eq_some_iff.mp e
  simp only at e
  split at e
  · cases e
    exact ⟨av, Γ, _, _, rl, e1, fun va H1 av1 P1 => ⟨_, vint (P1.vr), q _ _ ⟨P1.rel, P1.fra⟩⟩⟩
  · cases e
/-! ### written tuples, lists; subscripts -/
def Es.len : Es → Nat
  | .nil => 0
  | .cons _ es => es.len + 1
theorem evF_len : ∀ {es : Es} {Γ Γ' : G} {ds : List D}, evF C es Γ = some (ds, Γ') → ds.length = es.len
  | .nil, _, _, _, e => by rw [evF] at e; cases e; rfl
  | .cons a es, Γ, Γ', ds, e => by
    rw [evF] at e
    obtain ⟨⟨ra, Γ1⟩, e1, e⟩ := Option.bind_eq_some_iff.mp e
    obtain ⟨⟨d, Γ2⟩, e2, e⟩ := Option.bind_eq_some_iff.mp e
    obtain ⟨⟨ds', Γ3⟩, e3, e⟩ := Option.map_eq_some_iff.mp e
    cases e
    rw [List.length_cons, evF_len e3]
    rfl
/-- a written tuple, the new tuple's object known -/
theorem pe_tupX {X : Cx} {es : List Expr} {x1 : Nat} {pos : Pos} {t : TA} (h : PA X es t) : PE X (.Tuple es x1 pos) (fun σ H Q => t σ H fun xs H1 => xs.length ≤ sizeLine ∧ ∀ p (ob : Obj), ob.dict = none → H1 p = none → Q (.ref p) (upd H1 p (.frz ob (.tup xs)))) := by
  refine ⟨fun pins s σ H Q I hq => ?_⟩
  refine wpAny_Tuple_spliced (thn (h.run pos pins s σ H _ I hq) fun us s1 ⟨xs, H1, I1, r, z, q⟩ => ⟨by rw [← r.length]; exact z, ?_⟩)
  have hf : H1 s1.heap.objs.size = none := I1.hok.fresh (Nat.le_refl _)
  refine ⟨.ref s1.heap.objs.size, upd H1 s1.heap.objs.size (.frz _ (.tup xs)), I1.laid (t' := s1.toks) (fun b u e => Heap.get?_push_of_some _ e) (Nat.le_refl _) ⟨Heap.get?_push_size _ rfl, ?_⟩, rfl, q _ _ rfl hf⟩
  exact ⟨z, us, r, ⟨_, Heap.get?_push_size _ rfl, rfl, _, rfl⟩⟩
theorem se_tup {es : Es} {xs : List Expr} {k : Nat} (hs : SF T X xs (evF C es)) (hl : es.len ≤ 1000) : SE T X (.Tuple xs k pos) (ev C (.tup es)) := by
  refine (pe_tupX hs).imp fun σ H Q ⟨av, Γ, ds, Γ', rl, e, q⟩ => ?_
  rw [ev] at e
  obtain ⟨⟨ds', Γ3⟩, e3, e⟩ := Option.map_eq_some_iff.mp e
  cases e
  refine ⟨av, Γ, ds', _, rl, e3, fun vs H1 av1 P1 => ⟨?_, fun p ob hob hp => q _ _ _ (Res.post rl P1.rel P1.fra (.tup hob hp P1.rep))⟩⟩
  rw [← P1.rep.length, evF_len e3, line_eq]
  exact Nat.le_trans hl (by decide)
theorem se_lst {es : Es} {xs : List Expr} (hs : SF T X xs (evF C es)) (hl : es.len ≤ 1000) : SE T X (.List xs pos) (ev C (.lst es)) := by
  refine (pe_lst hs).imp fun σ H Q ⟨av, Γ, ds, Γ', rl, e, q⟩ => ?_
  rw [ev] at e
  obtain ⟨⟨ds', Γ3⟩, e3, e⟩ := Option.map_eq_some_iff.mp e
  cases e
  refine ⟨av, Γ, ds', _, rl, e3, fun vs H1 av1 P1 => ⟨?_, fun p hp => q _ _ _ (Res.post rl P1.rel P1.fra (.lst hp P1.rep))⟩⟩
  rw [← P1.rep.length, evF_len e3, line_eq]
  exact Nat.le_trans hl (by decide)
theorem se_idx (ha : SE T X x (ev C a)) (hb : SE T X y (ev C b)) (p : plainE y = true) : SE T X (.Subscript x y pos) (ev C (.idx a b)) := by
  refine (pe_ix (idx_ok T) ha hb (plainIx p)).imp fun σ H Q ⟨av, Γ, r, Γ', rl, e, q⟩ => ?_
  rw [ev] at e
  obtain ⟨⟨ra, Γ1⟩, e1, e⟩ := Option.bind_eq_some_iff.mp e
  obtain ⟨⟨rb, Γ2⟩, e2, e⟩ := Option.bind_eq_some_iff.mp e
  obtain ⟨dx, e3, e⟩ := Option.bind_eq_some_iff.mp e
  obtain ⟨dy, e4, e⟩ := Option.bind_eq_some_iff.mp e
  obtain ⟨r0, e5, e⟩ := Option.map_eq_some_iff.mp e
  cases e
  exact ⟨av, Γ, ra, Γ1, rl, e1, fun va H1 av1 P1 => ⟨av1, Γ1, rb, _, P1.rel, e2, fun vb H2 av2 P2 =>
    ⟨av2, dx, dy, _, look_ok P2.rel (P1.rep.fra P1.rel P2.fra) e3, look_ok P2.rel P2.rep e4, by show (idxD dx dy).map R.val = _; rw [e5]; rfl, fun w H' av' R => q _ _ _ (R.post rl P2.rel (P1.fra.trans rl P2.fra))⟩⟩⟩
theorem se_slc {lo hi : Eo} {xl xh : Option Expr} {p2 : Pos} (ha : SE T X x (ev C a)) (hl : SO T X xl (evO C lo)) (hh : SO T X xh (evO C hi)) : SE T X (.Subscript x (.Slice xl xh none p2) pos) (ev C (.slc a lo hi)) := by
  refine (pe_slice (slc_ok T) ha hl hh).imp fun σ H Q ⟨av, Γ, r, Γ', rl, e, q⟩ => ?_
  rw [ev] at e
  obtain ⟨⟨ra, Γ1⟩, e1, e⟩ := Option.bind_eq_some_iff.mp e
  obtain ⟨⟨l, Γ2⟩, e2, e⟩ := Option.bind_eq_some_iff.mp e
  obtain ⟨⟨h, Γ3⟩, e3, e⟩ := Option.bind_eq_some_iff.mp e
  obtain ⟨dx, e4, e⟩ := Option.bind_eq_some_iff.mp e
  obtain ⟨r0, e5, e⟩ := Option.map_eq_some_iff.mp e
  cases e
  exact ⟨av, Γ, ra, Γ1, rl, e1, fun va H1 av1 P1 => ⟨av1, Γ1, l, Γ2, P1.rel, e2, fun H2 av2 P2 => ⟨av2, Γ2, h, _, P2.rel, e3, fun H3 av3 P3 =>
    ⟨av3, dx, _, look_ok P3.rel ((P1.rep.fra P1.rel P2.fra).fra P2.rel P3.fra) e4, e5, fun w H' av' R => q _ _ _ (R.post rl P3.rel ((P1.fra.trans rl P2.fra).trans rl P3.fra))⟩⟩⟩⟩
end
end Mi

namespace Mi
open PySem PySem.Spec L2
open PyProof.Rows hiding St

/-! ## defs where no repr is under way -/
section
variable (P : Program) (w : World) (K : PySem.W.Frag) (mg : Str → Option Value) (base : Heap) (CX : CXT)
structure FnG (k : Nat) (f : Addr) (fd : FuncData) (ps : List Str) (sp : Sp) : Prop where
  len : ∀ vs H Q E, sp vs H Q E → vs.length = ps.length
  run : ∀ (A : Around) (out : List Env) (st : Shared) (H : Hp) (ar : Args) (us : List Value) (vs : List V) (Q : VK) (E : XK), Room k A → A.guards = some [] → Env0 P w K mg base A out st H →
    BindsTo st fd ar (ps.zip us) → Vals vs us → sp vs H Q E → codeAny (model P w) A (.call (.ref f) ar) (CR CX out P w H st Q E) st
end
section
variable {P : Program} {w : World} {K : PySem.W.Frag} {mg : Str → Option Value} {base : Heap} {CX : CXT} {k : Nat} {f : Addr} {fd : FuncData} {sp : Sp} {name qual : Str} {params : Arguments} {body : List Stmt} {scope : Scope} {dvs : List V} {kws : List (Str × V)} {N ps : List Str}
/-- a def by its body -/
theorem fnG_def (F : FunD K name qual params body scope dvs kws f fd) (S : FnScope N ps scope) (len : ∀ vs H Q E, sp vs H Q E → vs.length = ps.length)
    (hb : ∀ (cd : Value) (A : Around) (out : List Env) (st : Shared) (H : Hp) (vs : List V) (Q : VK) (E : XK), Room k (A.deeper (envOfC qual scope st.heap.objs.size f cd)) → (A.deeper (envOfC qual scope st.heap.objs.size f cd)).guards = some [] → sp vs H Q E →
      ∃ t, PSs (cxOf CX P w K mg base N qual scope f cd A out st H E) body t ∧ t { nx := fun _ H' => Q .non H', rt := Q } (start N vs) H) : FnG P w K mg base CX (k + 1) f fd ps sp := by
  obtain ⟨oc, od, dV, kV, doc, pm, an, cd, ct, osl, rfl, lk, hcd, -, -⟩ := F.ex
  constructor
  · exact len
  intro A out st H ar us vs Q E hr hg e0 bd rv hs
  have inK : K.In st.heap := e0.mod.kin.keeps fun b o e => (e0.bs b o e).1
  have nolim : st.heap.NoLimit := e0.mod.nolimit.keeps fun b o e => (e0.bs b o e).1
  refine codeAny_call_function hr.depth (inK _ _ lk) rfl S.co S.gen rfl (PySem.W.codeRec_of inK hcd) (bd _ _ _ _ (wpAny_newFunctionEnv_cells S.kind ?kd ?go))
  case kd =>
    rintro ⟨n, v⟩ hy
    exact (S.par n (List.of_mem_zip hy).1).imp id fun q => ⟨q, PySem.W.cellsFrom_some _ _ _ (.inl q)⟩
  case go =>
    rintro _ rfl s1 x
    obtain ⟨t, ht, hq⟩ := hb cd A out st H vs Q E (hr.deeper _) hg hs
    have I := inv_start (CX := CX) (E := E) S hr.hd e0 (len _ _ _ _ hs) rv x
    refine ⟨nolim.keeps x.toInCall.keep, codeAny_func (wpAny_mono (ht.run [] s1 (start N vs) H _ I hq) ?ok fun _ _ z => z)⟩
    case ok =>
      have fin : ∀ {s2 : Shared} {τ : L2.St} {H2 : Hp} {v : V} {u : Value}, Inv (cxOf CX P w K mg base N qual scope f cd A out st H E) [] τ H2 s2 → RelV v u → Q v H2 → CE out P w H st Q u s2 := by
        intro s2 τ H2 v u J r q
        exact ⟨v, H2, J.os, J.bare, J.base, J.hok, r, q⟩
      intro fl s2 z
      cases fl with
      | ret u => obtain ⟨v, τ, H2, J, r, q⟩ := z; exact fin J r q
      | next => obtain ⟨τ, H2, J, q⟩ := z; exact fin (v := V.non) (u := Value.none) J rfl q
      | brk => obtain ⟨_, _, _, q⟩ := z; exact False.elim q
      | cont => obtain ⟨_, _, _, q⟩ := z; exact False.elim q
end
/-- a call of it -/
theorem fnG_call {X : Cx} {CX : CXT} {k n : Nat} {f : Addr} {fd : FuncData} {ps ks : List Str} {sp : Sp} {E : XK} {g : List Value → List Value → List Value} {gV : List V → List V → List V} {pins : List (Addr × Obj)} {σ : L2.St} {H : Hp} {s : Shared} {Q : VK} {us ws : List Value} {vs zs : List V}
    (F : FnG X.prog X.w X.K X.mg X.base CX k f fd ps sp) (hr : Room k X.A) (hg : X.A.guards = some []) (kb : KBn X.K fd ps n ks g gV) (hx : Passes CX X E) (I : Inv X pins σ H s) (r1 : Vals vs us) (r2 : Vals zs ws) (l1 : vs.length = n) (l2 : zs.length = ks.length)
    (h : sp (gV vs zs) H Q E) : wpAny (model X.prog X.w) X.A (call (.ref f) us (ks.zip ws)) (EP X pins σ Q) X.xe s := by
  have e1 : us.length = n := by rw [← r1.length]; exact l1
  have e2 : ws.length = ks.length := by rw [← r2.length]; exact l2
  refine wpAny_call (codeAny_mono (F.run X.A X.stack s H _ (g us ws) (gV vs zs) Q E hr hg I.env0 (kb.to s us ws I.kIn e1 e2) (kb.rel r1 r2) h) ?_)
  rintro (e | fl) s2 z
  · exact hx pins σ H s e s2 I z
  · cases fl with
    | ret u => exact I.after z
    | next => exact z.elim
    | brk => exact z.elim
    | cont => exact z.elim
/-! ## the law's own call -/
abbrev LawR (s1 : Shared) : Except Value Flow → Shared → Prop := fun r s2 => r = .ok (.ret (.bool true)) ∧ OldK s1.heap s2.heap ∧ s2.os = s1.os ∧ AllBare s2.gens
section
variable {P : Program} {w : World} {K : PySem.W.Frag} {mg mb : Str → Option Value} {k : Nat} {fa a : Addr} {fd : FuncData} {x : Str} {sp : Sp} {s1 : Shared} {vs : List Value} {ns : List Int} {H : Hp} {CX : CXT}
/-- what is tracked at a law's start: the script, or nothing -/
structure Bare1 (P : Program) (w : World) (K : PySem.W.Frag) (s1 : Shared) (a : Addr) (ns : List Int) (H : Hp) : Prop where
  only : Only H
  scr : SqL K H a (ns.map V.int)
  hok : HOk P w H s1.heap
  one : ∀ b, H b ≠ none → b = a
  off : H a ≠ none → K.lookup a = none
theorem bare_run (B : Bare1 P w K s1 a ns H) (inK : K.In s1.heap) (nsM : s1.heap.Ns mainGlobals mg) (nsB : s1.heap.Ns builtinsNs mb) (blt : ∀ y : Str, y ≠ "__name__" → mb y = bootBuiltins y) (lim : s1.heap.NoLimit) (gn : s1.gens = #[])
    (ob : s1.heap.get? a = some { cls := .type "list", data := .seq vs.toArray }) (room : Room k callerA) (F : ∀ bs : Heap, K.In bs → bs.Ns mainGlobals mg → FnG P w K mg bs CX k fa fd [x] sp)
    (bind : ∀ (s : Shared) (u : Value), BindsTo s fd ⟨[u], []⟩ [(x, u)]) (good : sp [.ref a] H (fun v _ => v = .bl true) fun _ _ _ => False) (noX : ∀ H e s2, CX [] H s1 (fun _ _ _ => False) e s2 → False) :
    codeAny (model P w) callerA (.call (.ref fa) ⟨[.ref a], []⟩) (LawR s1) s1 := by
  have free : ∀ {b : Addr}, b ≠ a → H b = none := fun {b} n => Classical.byContradiction fun z => n (B.one b z)
  have low : ∀ {b : Addr} {o : Obj}, s1.heap.get? b = some o → H b = none → (hidT s1.heap H).get? b = some o := fun e n => hidT_get e n
  have ns' : ∀ {b : Addr} {m : Str → Option Value}, s1.heap.Ns b m → (hidT s1.heap H).Ns b m := by
    rintro b m ⟨o, es, ep, e, d, r⟩
    refine ⟨o, es, ep, low e (free ?_), d, r⟩
    rintro rfl
    rw [ob] at e
    cases e
    cases (show Data.seq vs.toArray _ = Data.dict es ep from d)
  have inB : K.In (hidT s1.heap H) := fun b o e => low (inK b o e) (Classical.byContradiction fun z => by
    have hb := B.one b z
    subst hb
    rw [B.off z] at e
    cases e)
  have md : Mod K mg (hidT s1.heap H) := ⟨inB, ns' nsM, ⟨mb, ns' nsB, blt⟩, lim.imp fun mc h => ⟨ns' h.1, h.2⟩⟩
  have e0 : Env0 P w K mg (hidT s1.heap H) callerA [] s1 H := ⟨rfl, md, fun b o e => of_hidT e, Nat.le_of_eq (hidT_size _ _), trivial, fun b hb => (List.not_mem_nil (a := b) hb).elim, B.hok, .of_eq gn⟩
  refine codeAny_mono ((F _ inB (ns' nsM)).run callerA [] s1 H _ [.ref a] [.ref a] _ _ room rfl e0 (bind s1 (.ref a)) (.cons rfl .nil) good) ?_
  rintro (e | fl) s2 z
  · exact (noX H e s2 z).elim
  cases fl with
  | next => exact z.elim
  | brk => exact z.elim
  | cont => exact z.elim
  | ret u =>
    obtain ⟨v, H2, os, bare, un, ok2, r2, q⟩ := z
    cases (show v = .bl true from q)
    cases (show u = Value.bool true from r2)
    refine ⟨rfl, OldK.of_keep ?_, os, bare⟩
    intro b o e
    rcases B.only b with n | ⟨ob2, xs, fz⟩
    · exact un.keep b o e n (fun z => (List.not_mem_nil (a := b) z).elim) List.not_mem_nil
    · have h1 := (B.hok b _ fz).1
      have h2 := (ok2 b _ (un.frzs b ob2 _ fz)).1
      rw [e] at h1
      cases h1
      exact h2
theorem lawG_call (inK : K.In s1.heap) (nsM : s1.heap.Ns mainGlobals mg) (nsB : s1.heap.Ns builtinsNs mb) (blt : ∀ y : Str, y ≠ "__name__" → mb y = bootBuiltins y) (lim : s1.heap.NoLimit) (gn : s1.gens = #[])
    (ob : s1.heap.get? a = some { cls := .type "list", data := .seq vs.toArray }) (hI : IntsAre vs ns) (len : ns.length ≤ sizeLine) (room : Room k callerA) (F : ∀ bs : Heap, K.In bs → bs.Ns mainGlobals mg → FnG P w K mg bs CX k fa fd [x] sp)
    (bind : ∀ (s : Shared) (u : Value), BindsTo s fd ⟨[u], []⟩ [(x, u)]) (good : ∀ H : Hp, Only H → SqL K H a (ns.map V.int) → sp [.ref a] H (fun v _ => v = .bl true) fun _ _ _ => False) (noX : ∀ H e s2, CX [] H s1 (fun _ _ _ => False) e s2 → False) :
    codeAny (model P w) callerA (.call (.ref fa) ⟨[.ref a], []⟩) (LawR s1) s1 := by
  have fin : ∀ H, Bare1 P w K s1 a ns H → codeAny (model P w) callerA (.call (.ref fa) ⟨[.ref a], []⟩) (LawR s1) s1 := fun H B => bare_run B inK nsM nsB blt lim gn ob room F bind (good H B.only B.scr) noX
  have rv := vals_ints hI
  cases hk : K.lookup a with
  | some o =>
    have e := inK a o hk
    rw [ob] at e
    cases e
    refine fin (fun _ => none) ⟨fun _ => .inl rfl, .inr ⟨_, vs.toArray, _, hk, rfl, rfl, rfl, ?_, by simpa using rv⟩, fun b u z => (by cases z), fun b z => (z rfl).elim, fun z => (z rfl).elim⟩
    rw [List.size_toArray, hI.length]
    exact len
  | none =>
    let o : Obj := { cls := .type "list", data := .seq vs.toArray }
    have at_ : ∀ {b : Addr} {u : HO}, (if b = a then some (HO.frz o (.lst (ns.map V.int))) else none) = some u → b = a ∧ u = .frz o (.lst (ns.map V.int)) := by
      intro b u z
      split at z
      · cases z; exact ⟨by assumption, rfl⟩
      · cases z
    refine fin (fun b => if b = a then some (.frz o (.lst (ns.map V.int))) else none) ⟨fun b => ?_, .inl (.inr ⟨o, if_pos rfl⟩), fun b u z => ?_, fun b z => ?_, fun _ => hk⟩
    · by_cases e : b = a
      · exact .inr ⟨_, _, if_pos e⟩
      · exact .inl (if_neg e)
    · obtain ⟨rfl, rfl⟩ := at_ z
      exact ⟨ob, by rw [List.length_map]; exact len, vs, _, rv, ob⟩
    · exact Classical.byContradiction fun e => z (if_neg e)
end
theorem walk_ofG {l : PySem.W.OpenLaw} {m k : Nat} {q : Program} {loose : List Str} {XP : (Str → Option Value) → Heap → Prop} {YP : World → Heap → Prop} {dr : DefRec} {CX : CXT} {x : Str} (hm : l.most = some m) (hm2 : m ≤ sizeLine) (hd : dr.params.defaults = []) (room : Room k callerA)
    (F : ∀ (w : World) (mg : Str → Option Value) (f : Addr) (h : Heap), YP w h → h.Ns mainGlobals mg → mg dr.name = some (.ref f) → ∃ (K : PySem.W.Frag) (fd : FuncData) (sp : Sp), K.In h ∧ (∀ (s : Shared) (u : Value), BindsTo s fd ⟨[u], []⟩ [(x, u)]) ∧
      (∀ (H : Hp) (a : Addr) (ns : List Int), ns.length ≤ m → Only H → SqL K H a (ns.map V.int) → sp [.ref a] H (fun v _ => v = .bl true) fun _ _ _ => False) ∧ ∀ bs : Heap, K.In bs → bs.Ns mainGlobals mg → FnG l.prog w K mg bs CX k f fd [x] sp)
    (noX : ∀ (H : Hp) (s : Shared) (e : Value) (s2 : Shared), CX [] H s (fun _ _ _ => False) e s2 → False) : PySem.W.WalkO q loose XP YP l.row.toRowW dr [] (fun f vs => PySem.call f vs) := by
  refine Att.attach_call hm hd fun w _ s1 mg mb f _ _ _ _ a vs ns G Y _ _ _ e ob hI len gn => ?_
  obtain ⟨K, fd, sp, inK, bd, good, hF⟩ := F w mg f _ Y G.T.g e
  exact lawG_call inK G.T.g G.T.b G.T.builtins G.T.nolimit gn ob hI (Nat.le_trans len hm2) room hF bd (fun H h1 h2 => good H a ns len h1 h2) fun H e s2 => noX H s1 e s2
end Mi

namespace Mi
open PySem PySem.Spec L2
open PyProof.Rows hiding St

/-! ## writing what a name owns -/
section
variable {T : Cls2} {K : PySem.W.Frag} {H : Hp} {av : Av} {Γ : G} {σ : St}
theorem kp_write {p : Addr} {u u0 : HO} (ha : av p) (h0 : H p = some u0) (w0 : Wr u0) : Kp av H av (upd H p u) := by
  refine ⟨fun a o h w => ?_, fun _ _ _ n => n⟩
  have : a ≠ p := fun z => by
    subst z
    rw [h0] at h
    cases h
    exact w.elim (fun w => w w0) fun w => w ha
  rw [upd_ne this]
  exact h
theorem Rel.write (rl : Rel T K av Γ σ H) {i : Nat} {o o' : OD} {p : Addr} {u : HO} (h : Γ[i]? = some (.own o)) (hp : σ[i]? = some (some (.ref p))) (ho : ORep T K (upd H p u) av o' p) :
    Rel T K av (Γ.set i (.own o')) σ (upd H p u) ∧ Fra σ Γ av H σ (Γ.set i (.own o')) av (upd H p u) := by
  have hi : i < Γ.length := (List.getElem?_eq_some_iff.mp h).1
  have hO : OwnAt Γ σ i p := .mk' h hp
  obtain ⟨ha, u0, h0, w0⟩ := rl.heldAt (.inl hO)
  have kp : Kp av H av (upd H p u) := kp_write ha h0 w0
  have back : ∀ j q, OwnAt (Γ.set i (.own o')) σ j q → OwnAt Γ σ j q := fun j q z => by
    by_cases hj : i = j
    · subst hj
      exact ⟨by rw [h]; trivial, z.2⟩
    · obtain ⟨z1, z2⟩ := z
      rw [List.getElem?_set_ne hj] at z1
      exact ⟨z1, z2⟩
  have backB : ∀ j q, BorAt (Γ.set i (.own o')) σ j q → BorAt Γ σ j q := fun j q z => (set_bor (e := .own o') (fun z => z) z).1
  refine ⟨⟨by rw [List.length_set]; exact rl.len, fun j e he => ?_, fun j k q h1 h2 h3 h4 => ?_, fun a z => ?_⟩, ⟨fun a o1 h1 n => ?_, fun a o1 h1 => ?_, fun _ z _ => z, fun _ _ _ z => z, fun j q z => .inl (back j q z), backB⟩⟩
  · by_cases hj : i = j
    · subst hj
      rw [List.getElem?_set_self hi] at he
      cases he
      exact ⟨p, hp, ha, ho⟩
    · rw [List.getElem?_set_ne hj] at he
      refine ERep.kp (p := p) kp (fun q hq hx => ?_) (rl.ent j e he)
      have : q ≠ p := fun z => hj (rl.inj' hO (z ▸ heldAt_of he hq hx))
      exact ⟨upd_ne this, id⟩
  · exact rl.inj' (back j q ⟨h1, h3⟩) (h2.imp (fun z => back k q ⟨z, h4⟩) fun z => backB k q ⟨z, h4⟩)
  · obtain ⟨o1, h1⟩ := rl.trk a z
    by_cases e : a = p
    · subst e; exact ⟨u, upd_same⟩
    · exact ⟨o1, by rw [upd_ne e]; exact h1⟩
  · have : a ≠ p := fun z => n ⟨i, by rw [z]; exact hO⟩
    rw [upd_ne this]; exact h1
  · by_cases e : a = p
    · subst e; exact ⟨u, upd_same⟩
    · exact ⟨o1, by rw [upd_ne e]; exact h1⟩
end
/-! ## calls -/
def SrcV (T : Cls2) (K : PySem.W.Frag) (ws : List V) : List Src → List V → Prop
  | [], us => us = []
  | .arg j :: ss, us => ∃ v r, us = v :: r ∧ ws[j]? = some v ∧ SrcV T K ws ss r
  | .con d :: ss, us => ∃ v r, us = v :: r ∧ (∀ H av, Rep T K H av d v) ∧ SrcV T K ws ss r
/-- a way to call a def: its written arguments, its keywords, where each parameter comes from -/
structure FI where
  f : Nat
  nm : Str
  n : Nat
  ks : List Str
  src : List Src
def SrcNd (src : List Src) : Prop := ∀ (i j : Nat) a, src[i]? = some (.arg a) → src[j]? = some (.arg a) → i = j
structure FnC (T : Cls2) (C : Ctx) (P : Program) (w : World) (K : PySem.W.Frag) (mg : Str → Option Value) (base : Heap) (A : Around) (p : FI) : Prop where
  ex : ∃ (a : Addr) (fd : FuncData) (ps : List Str) (k : Nat) (g : List Value → List Value → List Value) (gV : List V → List V → List V), mg p.nm = some (.ref a) ∧ PySem.W.keepIn K (.ref a) = true ∧
    FnG P w K mg base CX0 k a fd ps (spOf T K p.src.length (C.ft p.f)) ∧ (Room k A ∧ A.guards = some []) ∧ KBn K fd ps p.n p.ks g gV ∧ ∀ vs zs : List V, vs.length = p.n → zs.length = p.ks.length → SrcV T K (vs ++ zs) p.src (gV vs zs)
  nd : SrcNd p.src
section
variable {T : Cls2} {K : PySem.W.Frag} {H H0 : Hp} {av : Av} {Γ : G} {σ : St}
theorem SrcV.length {ws : List V} : ∀ {src : List Src} {us : List V}, SrcV T K ws src us → us.length = src.length
  | [], _, h => by cases (show _ = [] from h); rfl
  | .arg j :: ss, _, ⟨v, r, e, _, h⟩ => by subst e; simp [SrcV.length h]
  | .con d :: ss, _, ⟨v, r, e, _, h⟩ => by subst e; simp [SrcV.length h]
theorem pick_reps {rs : List R} {ws : List V} (h : RReps T K H0 σ Γ H av rs ws) : ∀ {src : List Src} {us : List V} {rs' : List R}, SrcV T K ws src us → pick rs src = some rs' → RReps T K H0 σ Γ H av rs' us
  | [], _, _, s, e => by cases e; exact s
  | .arg j :: ss, _, _, ⟨v, r, e1, e2, s⟩, e => by
    subst e1
    unfold pick at e
    obtain ⟨q, h1, e⟩ := Option.bind_eq_some_iff.mp e
    obtain ⟨qs, h2, e⟩ := Option.map_eq_some_iff.mp e
    cases e
    obtain ⟨v', h3, h4⟩ := h.get h1
    rw [e2] at h3
    cases h3
    exact ⟨v, r, rfl, h4, pick_reps h s h2⟩
  | .con d :: ss, _, _, ⟨v, r, e1, e2, s⟩, e => by
    subst e1
    unfold pick at e
    obtain ⟨qs, h2, e⟩ := Option.map_eq_some_iff.mp e
    cases e
    exact ⟨v, r, rfl, e2 H av, pick_reps h s h2⟩
theorem pick_at {rs : List R} {ws : List V} : ∀ {src : List Src} {us : List V} {rs' : List R} {i : Nat} {r : R} {v : V}, SrcV T K ws src us → pick rs src = some rs' → rs'[i]? = some r → us[i]? = some v → IsFr r → ∃ j, src[i]? = some (.arg j) ∧ rs[j]? = some r ∧ ws[j]? = some v
  | [], _, _, i, r, v, s, e, h, _, _ => by cases e; simp at h
  | .arg j :: ss, _, _, i, r, v, ⟨v', us', e1, e2, s⟩, e, h, h', f => by
    subst e1
    unfold pick at e
    obtain ⟨q, h1, e⟩ := Option.bind_eq_some_iff.mp e
    obtain ⟨qs, h2, e⟩ := Option.map_eq_some_iff.mp e
    cases e
    cases i with
    | zero => simp at h h'; subst h h'; exact ⟨j, rfl, h1, e2⟩
    | succ i =>
      obtain ⟨j', a, b, c⟩ := pick_at (i := i) s h2 (by simpa using h) (by simpa using h') f
      exact ⟨j', by simpa using a, b, c⟩
  | .con d :: ss, _, _, i, r, v, ⟨v', us', e1, e2, s⟩, e, h, h', f => by
    subst e1
    unfold pick at e
    obtain ⟨qs, h2, e⟩ := Option.map_eq_some_iff.mp e
    cases e
    cases i with
    | zero => simp at h; subst h; exact f.elim
    | succ i =>
      obtain ⟨j', a, b, c⟩ := pick_at (i := i) s h2 (by simpa using h) (by simpa using h') f
      exact ⟨j', by simpa using a, b, c⟩
theorem pick_apart {rs rs' : List R} {ws us : List V} {src : List Src} (nd : SrcNd src) (ap : Apart rs ws) (s : SrcV T K ws src us) (e : pick rs src = some rs') : Apart rs' us := fun i j r q v h1 h2 f1 f2 e1 e2 => by
  obtain ⟨a, a1, a2, a3⟩ := pick_at s e h1 e1 f1
  obtain ⟨b, b1, b2, b3⟩ := pick_at s e h2 e2 f2
  have := ap a b r q v a2 b2 f1 f2 a3 b3
  subst this
  exact nd i j a a1 b1
end
theorem kw_all : ∀ {kws : List Keyword} {ks : List Str} (env : Env) (pos : Pos), kws.map (·.arg) = ks.map some → (backToKw pos (keywordEach kws env)).all (·.1.isSome) = true ∧ (backToKw pos (keywordEach kws env)).filterMap (·.1) = ks ∧ (backToKw pos (keywordEach kws env)).any (·.1.isNone) = false
  | [], [], _, _, _ => ⟨rfl, rfl, rfl⟩
  | [], _ :: _, _, _, h => by cases h
  | _ :: _, [], _, _, h => by cases h
  | ⟨n, e, p⟩ :: kws, k :: ks, env, pos, h => by
    rw [List.map_cons, List.map_cons] at h
    injection h with h1 h2
    have h1 : n = some k := h1
    subst h1
    obtain ⟨a, b, c⟩ := kw_all (kws := kws) env pos h2
    refine ⟨?_, ?_, ?_⟩
    · show (true && (backToKw pos (keywordEach kws env)).all (·.1.isSome)) = true
      rw [a]; rfl
    · show k :: (backToKw pos (keywordEach kws env)).filterMap (·.1) = k :: ks
      rw [b]
    · show (false || (backToKw pos (keywordEach kws env)).any (·.1.isNone)) = false
      rw [c]; rfl
section
variable {X : Cx} {T : Cls2} {C : Ctx} {pos : Pos} {x y z : Expr} {a b c : E}
theorem evA_len : ∀ {es : Es} {acc : List Bool} {Γ Γ' : G} {rs : List R}, evA C es acc Γ = some (rs, Γ') → rs.length = es.len
  | .nil, _, _, _, _, e => by rw [evA] at e; cases e; rfl
  | .cons a es, acc, Γ, Γ', ds, e => by
    rw [evA] at e
    obtain ⟨⟨ra, Γ1⟩, e1, e⟩ := Option.bind_eq_some_iff.mp e
    obtain ⟨⟨d, Γ2⟩, e2, e⟩ := Option.bind_eq_some_iff.mp e
    obtain ⟨⟨ds', Γ3⟩, e3, e⟩ := Option.map_eq_some_iff.mp e
    cases e
    rw [List.length_cons, evA_len e3]
    rfl
theorem se_cal {p : FI} {nm : Str} {p1 : Pos} {acc acc2 : List Bool} {es ks : Es} {xs : List Expr} {kws : List Keyword} (F : FnC T C X.prog X.w X.K X.mg X.base X.A p) (hnm : nm = p.nm) (hg : Gl X nm) (hdb : (nm == ("__debug__" : Str)) = false)
    (ha : SA T X xs (evA C es acc)) (hk : SK T X kws (evA C ks acc2)) (hp : xs.all plainE = true) (hks : kws.map (·.arg) = p.ks.map some) (hl : xs.length = es.len) (hn : es.len = p.n) (hn2 : ks.len = p.ks.length) :
    SE T X (.Call (.Name nm p1) xs kws pos) (ev C (.cal p.f acc es acc2 ks p.src)) := by
  subst hnm
  obtain ⟨ad, fd, ps, k, g, gV, hm, hkeep, ok, hr, kb, sv⟩ := F.ex
  obtain ⟨kall, kfil, kno⟩ := kw_all X.env pos hks
  refine ⟨fun pins s σ H Q I h => ?_⟩
  obtain ⟨av, Γ, r, Γ', rl, e, q⟩ := h
  rw [ev] at e
  obtain ⟨⟨rs, Γ1⟩, e1, e⟩ := Option.bind_eq_some_iff.mp e
  obtain ⟨⟨qs, Γ2⟩, e2, e⟩ := Option.bind_eq_some_iff.mp e
  have e : callT C.ft p.f p.src (rs ++ qs) Γ2 = some (r, Γ') := e
  unfold callT at e
  obtain ⟨rs', e3, e⟩ := Option.bind_eq_some_iff.mp e
  obtain ⟨⟨is, Γ3⟩, e4, e⟩ := Option.bind_eq_some_iff.mp e
  obtain ⟨⟨rt, os⟩, e5, e⟩ := Option.bind_eq_some_iff.mp e
  cases e
  refine wpAny_Call_Name_kw (ld_glob I hg hm ?_ hdb)
  -- the callee runs
  have fin : ∀ (s2 : Shared) (us ws : List Value) (vs zs : List V) (H1 H2 : Hp) (av1 av2 : Av), Inv X pins σ H2 s2 → Vals vs us → Vals zs ws → PostA T X.K σ av Γ H Γ1 rs vs H1 av1 → PostA T X.K σ av1 Γ1 H1 Γ2 qs zs H2 av2 →
      wpAny (model X.prog X.w) X.A (call (.ref ad) us (p.ks.zip ws)) (EP X pins σ Q) X.xe s2 := fun s2 us ws vs zs H1 H2 av1 av2 I2 rv rz P1 P2 => by
    have l1 : vs.length = p.n := by rw [← P1.rep.length, evA_len e1, hn]
    have l2 : zs.length = p.ks.length := by rw [← P2.rep.length, evA_len e2, hn2]
    have S := sv vs zs l1 l2
    have PA := PostA.append rl P1 P2
    have PA' : PostA T X.K σ av Γ H Γ2 rs' (gV vs zs) H2 av2 := ⟨PA.rel, pick_reps PA.rep S e3, pick_apart F.nd PA.apt S e3, PA.fra⟩
    refine fnG_call ok hr.1 hr.2 kb pass0 I2 rv rz l1 l2 (call_sp (E := E0) rl PA' S.length e4 e5 fun v H' av' P => q v H' av' P)
  cases xs with
  | nil =>
    cases es with
    | cons _ _ => cases hl
    | nil =>
      rw [evA] at e1
      cases e1
      refine PySem.W.callWith_KW0 (h₀ := X.base) I.ok.mod.kin hkeep kall ?_ (by rw [kno]; rfl)
      refine thn (hk.run pos pins s σ H _ I ⟨av, Γ, qs, Γ2, rl, e2, fun zs H2 av2 P2 => (⟨av2, P2⟩ : ∃ av2, PostA T X.K σ av Γ H Γ2 qs zs H2 av2)⟩) fun ws s2 ⟨zs, H2, I2, rz, av2, P2⟩ => ⟨I2.kIn, ?_⟩
      rw [kfil]
      exact fin s2 [] ws [] zs H H2 av av2 I2 .nil rz (.nil rl) P2
  | cons x0 xs =>
    rw [List.all_cons, Bool.and_eq_true] at hp
    have hst : (backTo pos (starEach (x0 :: xs) X.env)).any (·.1) = false := by
      rw [star_eq hp.1]
      show (false || (backTo pos (starEach xs X.env)).any (·.1)) = false
      rw [stars_no X.env pos hp.2]; rfl
    refine PySem.W.callWith_KW (h₀ := X.base) I.ok.mod.kin hkeep kall ?_ (by rw [hst, kno]; rfl) (star_eq hp.1 xs X.env)
    refine thn (ha.run pos pins s σ H _ I ⟨av, Γ, rs, Γ1, rl, e1, fun vs H1 av1 P1 => (⟨av1, P1⟩ : ∃ av1, PostA T X.K σ av Γ H Γ1 rs vs H1 av1)⟩) fun us s1 ⟨vs, H1, I1, rv, av1, P1⟩ => ?_
    refine thn (hk.run pos pins s1 σ H1 _ I1 ⟨av1, Γ1, qs, Γ2, P1.rel, e2, fun zs H2 av2 P2 => (⟨av2, P2⟩ : ∃ av2, PostA T X.K σ av1 Γ1 H1 Γ2 qs zs H2 av2)⟩) fun ws s2 ⟨zs, H2, I2, rz, av2, P2⟩ => ⟨I2.kIn, ?_⟩
    rw [kfil]
    exact fin s2 us ws vs zs H1 H2 av1 av2 I2 rv rz P1 P2
end
end Mi

namespace Mi
open PySem PySem.Spec L2
open PyProof.Rows hiding St

def biN : Bi → Str
  | .len => "len"
  | .abs => "abs"
  | .max2 => "max"
  | .min2 => "min"
  | .max1 => "max"
  | .min1 => "min"
  | .int => "int"
  | .bool => "bool"
  | .str => "str"
  | .sum => "sum"
  | .sum2 => "sum"
  | .all => "all"
  | .any => "any"
  | .list => "list"
  | .tuple => "tuple"
  | .sorted => "sorted"
  | .repr => "repr"
theorem bi_boot {b : Bi} (hb : b ≠ .sum2) : bootBuiltins (biN b) = some (bid b) := by
  cases b <;> first | exact absurd rfl hb | decide +kernel
theorem bi_nn (b : Bi) : biN b ≠ "__name__" := by cases b <;> decide +kernel
theorem bi_nd (b : Bi) : (biN b == ("__debug__" : Str)) = false := by cases b <;> decide +kernel
theorem bid_is {b : Bi} (hb : b ≠ .sum2) : (∃ id, bid b = .builtin id) ∨ (∃ t, bid b = .type t) := by
  cases b <;> first | exact absurd rfl hb | exact .inl ⟨_, rfl⟩ | exact .inr ⟨_, rfl⟩
/-- a list stands there -/
def typeIsList (K : PySem.W.Frag) (x : V) (H : Hp) : Prop := ∃ (p : Addr) (us : List V), x = .ref p ∧ SqL K H p us
def baseE : Expr → Bool
  | .Call (.Name ..) _ _ _ => false
  | _ => true
theorem base_eq {e : Expr} (h : baseE e = true) (n : Str) (env : Env) : attributeBase e n env (eval e env) = eval e env := by
  cases e <;> first | rfl | skip
  rename_i f _ _ _
  cases f <;> first | rfl | cases h
section
variable {X : Cx} {T : Cls2} {C : Ctx} {pos p1 : Pos} {x y z : Expr} {a b c : E}
theorem se_bi {b : Bi} {nm : Str} {xs : List Expr} {es : Es} (hc : X.calm = true) (hgd : X.A.guards = some []) (hun : X.A.units + 64 < cLine) (hb : b ≠ .sum2) (hnm : nm = biN b) (hg : Gl X nm) (hm : X.mg nm = none) (ha : SA T X (x :: xs) (evA C es [])) (hp : (x :: xs).all plainE = true) :
    SE T X (.Call (.Name nm p1) (x :: xs) [] pos) (ev C (.bi b es)) := by
  subst hnm
  rw [List.all_cons, Bool.and_eq_true] at hp
  have key : PE X (.Call (.Name (biN b) p1) (x :: xs) [] pos) (tCB (biD T X.K b) (tA T X.K (evA C es []))) := by
    have ok := bi_ok (X := X) T hc hgd hun b hb
    have bo := bi_boot hb
    rcases bid_is hb with ⟨id, e⟩ | ⟨id, e⟩
    · rw [e] at ok bo
      exact pe_callB ok hg hm bo ha (bi_nn b) (bi_nd b) (star_eq hp.1 xs X.env) (stars_no X.env pos hp.2)
    · rw [e] at ok bo
      exact pe_callTy ok hg hm bo ha (bi_nn b) (bi_nd b) (star_eq hp.1 xs X.env) (stars_no X.env pos hp.2)
  refine key.imp fun σ H Q ⟨av, Γ, r, Γ', rl, e, q⟩ => ?_
  rw [ev] at e
  obtain ⟨⟨rs, Γ1⟩, e1, e⟩ := Option.bind_eq_some_iff.mp e
  obtain ⟨ds, e2, e⟩ := Option.bind_eq_some_iff.mp e
  obtain ⟨r0, e3, e⟩ := Option.map_eq_some_iff.mp e
  cases e
  exact ⟨av, Γ, rs, _, rl, e1, fun vs H1 av1 P1 => ⟨av1, ds, _, RReps.look P1.rel P1.rep e2, e3, fun w H' av' R => q _ _ _ (R.post rl P1.rel P1.fra)⟩⟩
/-- isinstance(x, T) -/
theorem boot_tyN (t : Ty) : bootBuiltins (tyN t) = some (.type (tyN t)) := by cases t <;> decide +kernel
theorem tyN_nn (t : Ty) : (tyN t : Str) ≠ "__name__" := by cases t <;> decide +kernel
theorem tyN_nd (t : Ty) : ((tyN t : Str) == ("__debug__" : Str)) = false := by cases t <;> decide +kernel
theorem se_isi {t : Ty} {nm tn : Str} {p2 : Pos} (hnm : nm = "isinstance") (htn : tn = tyN t) (hg : Gl X nm) (hm : X.mg nm = none) (hg2 : Gl X tn) (hm2 : X.mg tn = none) (ha : SE T X x (ev C a)) (hp : plainE x = true) :
    SE T X (.Call (.Name nm p1) [x, .Name tn p2] [] pos) (ev C (.isi a [t])) := by
  subst hnm htn
  have ht : PE X (.Name (tyN t) p2) (tC (.ty (tyN t))) := pe_bltn hg2 hm2 (boot_tyN t) rfl (tyN_nn t) (tyN_nd t)
  refine (pe_callB call_isi hg hm boot_isinstance (pa_cons ha (pa_cons ht pa_nil (star_eq rfl [] X.env)) (star_eq hp _ X.env)) (by decide +kernel) (by decide +kernel) (star_eq hp _ X.env) (stars_no (es := [.Name (tyN t) p2]) X.env pos rfl)).imp fun σ H Q ⟨av, Γ, r, Γ', rl, e, q⟩ => ?_
  rw [ev] at e
  obtain ⟨⟨rs, Γ1⟩, e1, e⟩ := Option.bind_eq_some_iff.mp e
  obtain ⟨d, e2, e⟩ := Option.bind_eq_some_iff.mp e
  obtain ⟨bs, e3, e⟩ := Option.map_eq_some_iff.mp e
  cases e
  rw [List.mapM_cons, List.mapM_nil] at e3
  obtain ⟨b0, e4, e3⟩ := Option.bind_eq_some_iff.mp e3
  cases e3
  refine ⟨av, Γ, rs, _, rl, e1, fun v H1 av1 P1 => ?_⟩
  obtain ⟨u, tx, ko⟩ := isTy_ok (look_ok P1.rel P1.rep e2) e4
  refine ⟨v, .ty (tyN t), u, .type (tyN t), b0, rfl, .ty _, tx, ko, q _ _ _ (P1.rel.post0 P1.fra ?_)⟩
  have : ([b0].any id) = b0 := by cases b0 <;> rfl
  rw [this]
  exact rbl
theorem se_emp : SE T X (.Dict [] [] pos) (ev C .emp) := by
  refine pe_dnewK.imp fun σ H Q ⟨av, Γ, r, Γ', rl, e, q⟩ p hp => ?_
  rw [ev] at e
  cases e
  have f := alloc_fra (σ := σ) (Γ := Γ) (av := av) (u := .dK []) hp true
  refine q _ _ _ ⟨alloc_rel rl hp true, ⟨p, rfl, ⟨[], upd_same, rfl, .nil⟩, .inr ⟨rfl, rfl⟩, hp, fun z => ?_⟩, f⟩
  obtain ⟨_, u, hu, _⟩ := rl.held z
  rw [hp] at hu
  cases hu
/-- what the pairs give: the keys known, the values as the items -/
def DspR (T : Cls2) (K : PySem.W.Frag) (f : G → Option (List D × G)) (ks : List Key) (trs : List (TE × TE)) : Prop := ∀ σ H (Q : List (V × V) → Hp → Prop), (∃ av Γ ds Γ', Rel T K av Γ σ H ∧ f Γ = some (ds, Γ') ∧ ds.length = ks.length ∧ ∀ vs H' av', PostF T K σ av Γ H Γ' ds vs H' av' → Q ((ks.map kV).zip vs) H') → tPairs trs σ H Q
theorem dspR_nil : DspR T X.K (evF C .nil) [] [] := fun σ H Q ⟨av, Γ, ds, Γ', rl, e, _, q⟩ => by
  rw [evF] at e
  cases e
  exact q [] H av ⟨rl, .nil, Fra.refl⟩
theorem dspR_cons {es : Es} {k : Key} {ks : List Key} {trs : List (TE × TE)} (h : DspR T X.K (evF C es) ks trs) : DspR T X.K (evF C (.cons a es)) (k :: ks) ((tC (kV k), tE T X.K (ev C a)) :: trs) := fun σ H Q ⟨av, Γ, ds, Γ', rl, e, hl, q⟩ => by
  rw [evF] at e
  obtain ⟨⟨ra, Γ1⟩, e1, e⟩ := Option.bind_eq_some_iff.mp e
  obtain ⟨⟨d, Γ2⟩, e2, e⟩ := Option.bind_eq_some_iff.mp e
  obtain ⟨⟨ds', Γ3⟩, e3, e⟩ := Option.map_eq_some_iff.mp e
  cases e
  show tE T X.K (ev C a) σ H fun v H2 => tPairs trs σ H2 fun ps H3 => Q ((kV k, v) :: ps) H3
  refine ⟨av, Γ, ra, Γ1, rl, e1, fun va H1 av1 P1 => ?_⟩
  obtain ⟨av2, P2⟩ := frz_ok rl P1 e2
  refine h σ H1 _ ⟨av2, Γ2, ds', _, P2.rel, e3, by simpa using hl, fun vs H3 av3 P3 => ?_⟩
  exact q (va :: vs) _ _ ⟨P3.rel, .cons (Rep.kp (P3.fra.kp P2.rel) P2.dat) P3.rep, P2.fra.trans rl P3.fra⟩
theorem putK_new {k : Key} {v : V} : ∀ {kvs : List (Key × V)}, k ∉ kvs.map (fun x => x.1) → putK kvs k v = kvs ++ [(k, v)] := by
  intro kvs h
  unfold putK
  rw [if_neg]
  intro z
  obtain ⟨kv, h1, h2⟩ := List.any_eq_true.mp z
  exact h (List.mem_map.mpr ⟨kv, h1, of_decide_eq_true h2⟩)
theorem mergeK_new : ∀ {more kvs : List (Key × V)}, ((kvs ++ more).map fun x => x.1).Nodup → mergeK kvs more = kvs ++ more
  | [], kvs, _ => by simp [mergeK]
  | (k, v) :: more, kvs, h => by
    have hk : k ∉ kvs.map (fun x => x.1) := by
      rw [List.map_append, List.nodup_append] at h
      intro z
      exact h.2.2 _ z _ (by simp) rfl
    unfold mergeK
    rw [List.foldl_cons, putK_new hk]
    have := mergeK_new (more := more) (kvs := kvs ++ [(k, v)]) (by rw [List.append_assoc]; exact h)
    unfold mergeK at this
    rw [this, List.append_assoc]
    rfl
theorem zip_kV : ∀ {ks : List Key} {vs : List V}, (ks.map kV).zip vs = (ks.zip vs).map fun kv => (kV kv.1, kv.2)
  | [], _ => by simp
  | _ :: _, [] => by simp
  | k :: ks, v :: vs => by simp [zip_kV (ks := ks) (vs := vs)]
theorem zip_fst : ∀ {ks : List Key} {vs : List V}, ks.length = vs.length → (ks.zip vs).map (fun x => x.1) = ks
  | [], _, _ => by simp
  | k :: ks, [], h => by cases h
  | k :: ks, v :: vs, h => by simp [zip_fst (ks := ks) (vs := vs) (by simpa using h)]
theorem se_dspC {keys : List (Option Expr)} {values : List Expr} {ks : List Key} {es : Es} {trs : List (TE × TE)} (hp : PPs X pos keys values trs) (hD : DspR T X.K (evF C es) ks trs) (h1 : (keys.all fun x => x.isSome) = true) (h2 : keys.length = values.length) (h3 : keys ≠ []) (h4 : keys.length ≤ 15) :
    PE X (.Dict keys values pos) (tE T X.K fun Γ => (evF C es Γ).bind fun (ds, Γ1) => if dspOk ks ds = true then some (.fr (.dic ks ds), Γ1) else none) := by
  refine (pe_disp hp h1 h2 h3 h4).imp fun σ H Q ⟨av, Γ, r, Γ', rl, e, q⟩ => ?_
  obtain ⟨⟨ds, Γ3⟩, e3, e⟩ := Option.bind_eq_some_iff.mp e
  simp only at e
  split at e
  · rename_i hok
    cases e
    unfold dspOk at hok
    simp only [Bool.and_eq_true, decide_eq_true_eq] at hok
    obtain ⟨⟨o1, o2⟩, o3⟩ := hok
    intro p hp
    have rl1 := alloc_rel (u := .dK []) rl hp true
    have f1 := alloc_fra (σ := σ) (Γ := Γ) (av := av) (u := .dK []) hp true
    refine hD σ _ _ ⟨_, Γ, ds, _, rl1, e3, o1.symm, fun vs H2 av2 P => ?_⟩
    have hnh : ¬ Held Γ σ p := fun z => by
      obtain ⟨_, u, hu, _⟩ := rl.held z
      rw [hp] at hu
      cases hu
    have no : ¬ OwnS Γ σ p := fun ⟨j, z⟩ => hnh ⟨j, .inl z⟩
    have c1 : H2 p = some (.dK []) := P.fra.keep p _ upd_same no
    have c3 : av2 p := P.fra.av1 p (.inr ⟨rfl, rfl⟩) no
    have c4 : ¬ Held Γ' σ p := fun z => by
      rcases P.fra.held z with z | z
      · exact hnh z
      · rw [upd_same] at z; cases z
    have hvl : ks.length = vs.length := by rw [o1, P.rep.length]
    refine ⟨c1, ks.zip vs, zip_kV, by rw [List.length_zip]; omega, ?_⟩
    have hm : mergeK [] (ks.zip vs) = ks.zip vs := mergeK_new (kvs := []) (by rw [List.nil_append, zip_fst hvl]; exact o2)
    rw [hm]
    have kpD : Kp av2 H2 av2 (upd H2 p (.dK (ks.zip vs))) := kp_write c3 c1 trivial
    have fr := f1.trans rl P.fra
    refine q _ _ av2 ⟨⟨P.rel.len, fun j ee hj => ERep.kp (p := p) kpD (fun p' hp' hx' => ⟨upd_ne fun z => c4 ⟨j, z ▸ heldAt_of hj hp' hx'⟩, id⟩) (P.rel.ent j ee hj), P.rel.inj, fun a z => ?_⟩, ⟨p, rfl, ⟨vs, upd_same, hvl, P.rep.kp kpD⟩, c3, hp, c4⟩, fun a o h n => ?_, fun a o h => ?_, fr.av1, fr.av2, fr.own, fr.bor⟩
    · by_cases he : a = p
      · subst he; exact ⟨_, upd_same⟩
      · obtain ⟨o, ho⟩ := P.rel.trk a z; exact ⟨o, by rw [upd_ne he]; exact ho⟩
    · rw [upd_ne (ne_of_none h hp)]; exact fr.keep a o h n
    · rw [upd_ne (ne_of_none h hp)]; exact fr.thr a o h
  · cases e
def keyB : Key → Const → Bool
  | .inl i, .int j => i == j
  | .inr x, .str y => x.cps.toList == y.cps.toList
  | _, _ => false
theorem keyB_pe {k : Key} {c : Const} {n : Nat} {q : Pos} (h : keyB k c = true) : PE X (.Constant c n q) (tC (kV k)) := by
  unfold keyB at h
  split at h
  · rw [eq_of_beq h]
    exact pe_int
  · rename_i x y
    obtain ⟨⟨a⟩⟩ := x
    obtain ⟨⟨b⟩⟩ := y
    have : a = b := by simpa using h
    rw [this]
    exact pe_str
  · cases h
theorem se_dsp {keys : List (Option Expr)} {values : List Expr} {ks : List Key} {es : Es} {trs : List (TE × TE)} (hp : PPs X pos keys values trs) (hD : DspR T X.K (evF C es) ks trs) (h1 : (keys.all fun x => x.isSome) = true) (h2 : keys.length = values.length) (h3 : keys ≠ []) (h4 : keys.length ≤ 15) :
    SE T X (.Dict keys values pos) (ev C (.dsp ks es)) := (se_dspC hp hD h1 h2 h3 h4).imp fun σ H Q ⟨av, Γ, r, Γ', rl, e, q⟩ => ⟨av, Γ, r, Γ', rl, by rw [ev] at e; exact e, q⟩
/-- sep.join(list) -/
theorem se_join {nm : Str} {apos : Pos} (hnm : nm = "join") (ha : SE T X x (ev C a)) (hb : SE T X y (ev C b)) (hB : baseE x = true) (hl : (apos.endLine == pos.line) = true) (hp : plainE y = true) :
    SE T X (.Call (.Attribute x nm apos) [y] [] pos) (ev C (.mth .join a (.cons b .nil))) := by
  subst hnm
  refine (pe_join ha hb (star_eq hp [] X.env) (base_eq hB _ _) hl).imp fun σ H Q ⟨av, Γ, r, Γ', rl, e, q⟩ => ?_
  rw [ev] at e
  obtain ⟨⟨ra, Γ1⟩, e1, e⟩ := Option.bind_eq_some_iff.mp e
  dsimp only at e
  rw [if_pos (show mthK .join (look Γ1 ra) = true from rfl)] at e
  obtain ⟨⟨rs, Γ2⟩, e2, e⟩ := Option.bind_eq_some_iff.mp e
  obtain ⟨dx, e3, e⟩ := Option.bind_eq_some_iff.mp e
  obtain ⟨ds, e4, e⟩ := Option.bind_eq_some_iff.mp e
  obtain ⟨r0, e5, e⟩ := Option.map_eq_some_iff.mp e
  cases e
  rw [evA] at e2
  obtain ⟨⟨rb, Γ3⟩, e6, e2⟩ := Option.bind_eq_some_iff.mp e2
  obtain ⟨⟨rb', Γ4⟩, e7, e2⟩ := Option.bind_eq_some_iff.mp e2
  cases e7
  obtain ⟨⟨rs', Γ5⟩, e9, e2⟩ := Option.map_eq_some_iff.mp e2
  rw [evA] at e9
  cases e9
  cases e2
  rw [List.mapM_cons, List.mapM_nil] at e4
  obtain ⟨dy, e8, e4⟩ := Option.bind_eq_some_iff.mp e4
  cases e4
  rcases (show (∃ z xs, dx = .str z ∧ dy = .lst xs) ∨ mth .join dx [dy] = none by
    cases dx with
    | str z => cases dy with
      | lst xs => exact .inl ⟨z, xs, rfl, rfl⟩
      | _ => exact .inr rfl
    | _ => exact .inr rfl) with ⟨z, xs, hx, hy⟩ | hz
  · subst hx hy
    have e5 : ((strsD xs).bind fun ys => if (ys.map Str.length).sum + ys.length * z.length ≤ 16777216 then vl (.str (Txt.join z ys)) else none) = some r := e5
    obtain ⟨ys, e9, e5⟩ := Option.bind_eq_some_iff.mp e5
    split at e5
    · rename_i hs
      cases e5
      refine ⟨av, Γ, ra, Γ1, rl, e1, fun va H1 av1 P1 => ⟨?_, av1, Γ1, _, _, P1.rel, e6, fun vb H2 av2 P2 => ?_⟩⟩
      · cases ra with
        | val d => cases e3; exact ⟨_, vstr P1.vr⟩
        | fr o => cases o <;> cases e3
        | loc i =>
          unfold look at e3
          simp only at e3
          split at e3
          · rename_i o _; cases o <;> cases e3
          · rename_i o _; cases o <;> cases e3
          · cases e3
      · have hx := vstr (look_ok P2.rel (P1.rep.fra P1.rel P2.fra) e3)
        obtain ⟨p, us, e10, h1, h3⟩ := vlst (look_ok P2.rel P2.rep e8)
        cases strs_rep e9 h3
        exact ⟨z, p, ys, hx, by rw [e10], .inl (SqL.of h1), hs, q _ _ _ (P2.rel.post0 (P1.fra.trans rl P2.fra) rstr)⟩
    · cases e5
  · rw [hz] at e5; cases e5
/-- what a method leaves of an owned list -/
theorem mmt_list {m : Mm} {o o' : OD} {ds : List D} {d : D} (e : mmt m o ds = some (d, o')) : ∃ xs ys, o = .lst xs ∧ o' = .lst ys := by
  unfold mmt at e
  split at e
  · split at e
    · cases e; exact ⟨_, _, rfl, rfl⟩
    · cases e
  · split at e
    · cases e; exact ⟨_, _, rfl, rfl⟩
    · cases e
  · split at e
    · cases e; exact ⟨_, _, rfl, rfl⟩
    · cases e
  · split at e
    · obtain ⟨y, _, e⟩ := Option.map_eq_some_iff.mp e
      cases e; exact ⟨_, _, rfl, rfl⟩
    · cases e
  · obtain ⟨y, _, e⟩ := Option.map_eq_some_iff.mp e
    cases e; exact ⟨_, _, rfl, rfl⟩
  · cases e; exact ⟨_, _, rfl, rfl⟩
  · cases e
def mmN : Mm → String
  | .append => "append"
  | .insert => "insert"
  | .extend => "extend"
  | .pop => "pop"
  | .pop0 => "pop"
  | .reverse => "reverse"
def mmI : Mm → String
  | .append => "list.append"
  | .insert => "list.insert"
  | .extend => "list.extend"
  | .pop => "list.pop"
  | .pop0 => "list.pop"
  | .reverse => "list.reverse"
/-- by data -/
def rMm (T : Cls2) (K : PySem.W.Frag) (m : Mm) : V → List V → Hp → VK → Prop := fun x vs H Q => ∃ (p : Addr) (av : Av) (o o' : OD) (ds : List D) (d : D), x = .ref p ∧ ORep T K H av o p ∧ Reps T K H av ds vs ∧ mmt m o ds = some (d, o') ∧
  ∀ us ys v, o' = .lst ys → Reps T K H av ys us → Rep T K H av d v → Q v (upd H p (.lst us))
def mm0 : Mm → Bool
  | .pop0 => true
  | .reverse => true
  | _ => false
theorem reps_last {T : Cls2} {K : PySem.W.Frag} {H : Hp} {av : Av} {ds : List D} {xs : List V} (h : Reps T K H av ds xs) : Reps T K H av ds.dropLast xs.dropLast := by
  rw [List.dropLast_eq_take, List.dropLast_eq_take, h.length]
  exact h.take _
theorem reps_erase {T : Cls2} {K : PySem.W.Frag} {H : Hp} {av : Av} {ds : List D} {xs : List V} (h : Reps T K H av ds xs) (k : Nat) : Reps T K H av (ds.eraseIdx k) (xs.eraseIdx k) := by
  rw [List.eraseIdx_eq_take_drop_succ, List.eraseIdx_eq_take_drop_succ]
  exact (h.take _).append (h.drop _)
theorem reps_rev {T : Cls2} {K : PySem.W.Frag} {H : Hp} {av : Av} : ∀ {ds : List D} {xs : List V}, Reps T K H av ds xs → Reps T K H av ds.reverse xs.reverse
  | [], _, h => by rw [h.nil_inv]; exact .nil
  | d :: ds, _, h => by
    obtain ⟨v, r, rfl, h1, h2⟩ := h.cons_inv
    rw [List.reverse_cons, List.reverse_cons]
    exact (reps_rev h2).append (.cons h1 .nil)
theorem mm_ok (m : Mm) (hm : mm0 m = false) : MtR X (mmI m) (rMm T X.K m) := by
  intro pins s σ H v vs v' us Q I rv rs h
  obtain ⟨p, av, o, o', ds, d, rfl, ho, hd, e, q⟩ := h
  unfold mmt at e
  split at e
  · rename_i xs y
    split at e
    · rename_i hl
      cases e
      obtain ⟨w, r, rfl, h1, h2⟩ := hd.cons_inv
      cases h2.nil_inv
      obtain ⟨zs, h3, h4⟩ := ho
      exact mt_append pins s σ H _ _ v' us Q I rv rs ⟨p, zs, w, rfl, rfl, h3, by rw [line_eq, ← h4.length]; exact hl, q _ _ _ rfl (h4.append (.cons h1 .nil)) rnon⟩
    · cases e
  · rename_i xs k y
    split at e
    · rename_i hl
      cases e
      obtain ⟨w, r, rfl, h1, h2⟩ := hd.cons_inv
      obtain ⟨w2, r, rfl, h5, h2⟩ := h2.cons_inv
      cases h2.nil_inv
      cases vint h1.vrep
      obtain ⟨zs, h3, h4⟩ := ho
      have := q (zs.take k.toNat ++ w2 :: zs.drop k.toNat) _ .non rfl ((h4.take _).append (.cons h5 (h4.drop _))) rnon
      refine mt_insert pins s σ H _ _ v' us Q I rv rs ⟨p, zs, k, w2, rfl, rfl, h3, by rw [line_eq, ← h4.length]; exact hl.1, hl.2.1, by omega, ?_⟩
      rw [List.append_assoc]
      exact this
    · cases e
  · rename_i xs ys
    split at e
    · rename_i hl
      cases e
      obtain ⟨w, r, rfl, h1, h2⟩ := hd.cons_inv
      cases h2.nil_inv
      obtain ⟨zs, h3, h4⟩ := ho
      obtain ⟨b, ws, rfl, h5, h6⟩ := vlst h1.vrep
      exact mt_extend pins s σ H _ _ v' us Q I rv rs ⟨p, b, zs, ws, rfl, rfl, h3, h5, by rw [line_eq, ← h4.length, ← h6.length]; exact hl, q _ _ _ rfl (h4.append h6) rnon⟩
    · cases e
  · rename_i xs k
    split at e
    · rename_i hl
      obtain ⟨y, hy, e⟩ := Option.map_eq_some_iff.mp e
      cases e
      obtain ⟨w, r, rfl, h1, h2⟩ := hd.cons_inv
      cases h2.nil_inv
      cases vint h1.vrep
      obtain ⟨zs, h3, h4⟩ := ho
      obtain ⟨vy, h5, h6⟩ := h4.get hy
      have hlt : k.toNat < zs.length := (List.getElem?_eq_some_iff.mp h5).1
      refine mt_popAt pins s σ H _ _ v' us Q I rv rs ⟨p, zs, k, k.toNat, vy, rfl, rfl, h3, by omega, by omega, ?_, h5, q _ _ _ rfl (reps_erase h4 _) h6⟩
      unfold seqIndex?
      obtain ⟨k0, rfl⟩ := Int.eq_ofNat_of_zero_le hl.1
      simp at hlt ⊢
      omega
    · cases e
  · cases hm
  · cases hm
  · cases e
theorem mm0_ok (m : Mm) (hm : mm0 m = true) : MtR X (mmI m) (rMm T X.K m) := by
  intro pins s σ H v vs v' us Q I rv rs h
  obtain ⟨p, av, o, o', ds, d, rfl, ho, hd, e, q⟩ := h
  cases m with
  | pop0 =>
    unfold mmt at e
    split at e
    all_goals first | (rename_i hmm; cases hmm; done) | skip
    all_goals first | cases e; done | skip
    · rename_i xs
      obtain ⟨y, hy, e⟩ := Option.map_eq_some_iff.mp e
      cases e
      cases hd.nil_inv
      obtain ⟨zs, h3, h4⟩ := ho
      obtain ⟨vy, h5, h6⟩ := h4.get hy
      rw [h4.length] at h5
      exact mt_pop pins s σ H _ _ v' us Q I rv rs ⟨p, zs, vy, rfl, rfl, h3, h5, q _ _ _ rfl (reps_last h4) h6⟩
  | reverse =>
    unfold mmt at e
    split at e
    all_goals first | (rename_i hmm; cases hmm; done) | skip
    all_goals first | cases e; done | skip
    · rename_i xs
      cases e
      cases hd.nil_inv
      obtain ⟨zs, h3, h4⟩ := ho
      exact mt_reverse pins s σ H _ _ v' us Q I rv rs ⟨p, zs, rfl, rfl, h3, q _ _ _ rfl (reps_rev h4) rnon⟩
  | _ => cases hm
theorem mm_slot (m : Mm) : Slot "list" (mmN m) (mmI m) := by
  cases m with
  | append => exact F.slot_list_append
  | insert => exact F.slot_list_insert
  | extend => exact F.slot_list_extend
  | pop => exact F.slot_list_pop
  | pop0 => exact F.slot_list_pop
  | reverse => exact F.slot_list_reverse
theorem mm_type (m : Mm) : typeOf (.builtin (mmI m)) = pure (.type "method_descriptor") := by
  cases m with
  | append => exact F.type_list_append
  | insert => exact F.type_list_insert
  | extend => exact F.type_list_extend
  | pop => exact F.type_list_pop
  | pop0 => exact F.type_list_pop
  | reverse => exact F.type_list_reverse
theorem fewK {xs : List Expr} {env : Env} {cpos : Pos} (h : xs.all plainE = true) (hl : xs.length < 30) : ((backTo cpos (starEach xs env)).all (fun x => !x.1) && (backToKw cpos (keywordEach [] env)).all (fun x => x.1.isSome)
      && decide (xs.length + ([] : List Keyword).length + (if ([] : List Keyword).isEmpty then 0 else 1) < 30)) = true := by
  have h1 := stars_no env cpos h
  have h2 : (backTo cpos (starEach xs env)).all (fun x => !x.1) = true := by
    rw [List.all_eq_true]
    intro a ha
    rw [List.any_eq_false] at h1
    obtain ⟨c, t⟩ := a
    cases c with
    | false => rfl
    | true => exact absurd rfl (h1 _ ha)
  rw [h2]
  show (true && true && decide (xs.length + 0 + 0 < 30)) = true
  simp [hl]
/-- what is wanted of a method on an own list -/
theorem mmt_imp {m : Mm} {es : Es} {σ : St} {H : Hp} {Q : VK} (h : tE T X.K (ev C (.mmt m a es)) σ H Q) :
    tE T X.K (ev C a) σ H fun x H1 => ((typeIsList X.K x H1)) ∧ tF T X.K (evF C es) σ H1 fun vs H2 => rMm T X.K m x vs H2 Q := by
  obtain ⟨av, Γ, r, Γ', rl, e, q⟩ := h
  rw [ev] at e
  obtain ⟨⟨ra, Γ1⟩, e1, e⟩ := Option.bind_eq_some_iff.mp e
  obtain ⟨xs0, e0, e⟩ := Option.bind_eq_some_iff.mp e
  obtain ⟨d0, e00, e0⟩ := Option.bind_eq_some_iff.mp e0
  obtain ⟨⟨ds, Γ2⟩, e2, e⟩ := Option.bind_eq_some_iff.mp e
  simp only at e
  split at e
  · rename_i i
    split at e
    · rename_i o ho
      obtain ⟨⟨d, o'⟩, e3, e⟩ := Option.map_eq_some_iff.mp e
      cases e
      obtain ⟨zs, ys, rfl, rfl⟩ := mmt_list e3
      refine ⟨av, Γ, _, Γ1, rl, e1, fun va H1 av1 P1 => ?_⟩
      obtain ⟨p, rfl, hp⟩ := P1.rep
      -- what the name held is a list
      have key : ∀ vs H2 av2, PostF T X.K σ av1 Γ1 H1 Γ2 ds vs H2 av2 → rMm T X.K m (.ref p) vs H2 Q := fun vs H2 av2 P2 => by
        obtain ⟨q', hq, h1, h2⟩ := P2.rel.own ho
        rw [hp] at hq
        cases hq
        refine ⟨p, av2, _, _, ds, _, rfl, h2, P2.rep, e3, fun us ys' v ey hus hv => ?_⟩
        cases ey
        obtain ⟨u0, h0, w0⟩ := h2.wr
        obtain ⟨w1, w2⟩ := P2.rel.write ho hp (o' := .lst ys) (u := .lst us) ⟨us, upd_same, hus.kp (kp_write h1 h0 w0)⟩
        exact q _ _ _ ⟨w1, Rep.kp (kp_write h1 h0 w0) hv, (P1.fra.trans rl P2.fra).trans rl w2⟩
      refine ⟨?_, av1, Γ1, ds, Γ2, P1.rel, e2, key⟩
      have vr := look_ok P1.rel P1.rep e00
      cases d0 with
      | lst ws =>
        obtain ⟨p', us, e4, h1, h2⟩ := vlst vr
        cases e4
        exact ⟨p, us, rfl, SqL.of h1⟩
      | _ => cases e0
    · cases e
  · cases e
theorem se_mmt {m : Mm} {nm : Str} {xs : List Expr} {es : Es} {apos : Pos} (hmm : mm0 m = false) (hnm : nm = mmN m) (ha : SE T X x (ev C a)) (hs : SF T X (y :: xs) (evF C es)) (hB : baseE x = true) (hl : (apos.endLine == pos.line) = true) (hp : (y :: xs).all plainE = true) (h30 : (y :: xs).length < 30) :
    SE T X (.Call (.Attribute x nm apos) (y :: xs) [] pos) (ev C (.mmt m a es)) := by
  subst hnm
  have hp0 := hp
  rw [List.all_cons, Bool.and_eq_true] at hp
  refine (pe_bm F.plainAttrs_list (mm_slot m) (mm_type m) (mm_ok (T := T) m hmm) ha hs (base_eq hB _ _) (fewK hp0 h30) hl (star_eq hp.1 xs X.env) (stars_no X.env pos hp.2)).imp fun σ H Q h => ?_
  obtain ⟨av, Γ, r, Γ', rl, e, q⟩ := mmt_imp h
  refine ⟨av, Γ, r, Γ', rl, e, fun v H' av' P => ?_⟩
  obtain ⟨⟨p, us, rfl, h1⟩, h2⟩ := q v H' av' P
  exact ⟨.inl ⟨rfl, us, h1⟩, h2⟩
theorem se_mmt0 {m : Mm} {nm : Str} {apos : Pos} (hmm : mm0 m = true) (hnm : nm = mmN m) (ha : SE T X x (ev C a)) (hB : baseE x = true) (hl : (apos.endLine == pos.line) = true) :
    SE T X (.Call (.Attribute x nm apos) [] [] pos) (ev C (.mmt m a .nil)) := by
  subst hnm
  refine (pe_bm0 F.plainAttrs_list (mm_slot m) (mm_type m) (mm0_ok (T := T) m hmm) ha (base_eq hB _ _) hl).imp fun σ H Q h => ?_
  obtain ⟨av, Γ, r, Γ', rl, e, q⟩ := mmt_imp h
  refine ⟨av, Γ, r, Γ', rl, e, fun v H' av' P => ?_⟩
  obtain ⟨⟨p, us, rfl, h1⟩, av2, Γ2, ds, Γ3, rl2, e2, h2⟩ := q v H' av' P
  rw [evF] at e2
  cases e2
  exact ⟨.inl ⟨rfl, us, h1⟩, h2 [] _ _ ⟨rl2, .nil, Fra.refl⟩⟩
theorem mth_parts {m : Mt} {σ : St} {H : Hp} {Q : VK} (h : tE T X.K (ev C (.mth m a (.cons b .nil))) σ H Q) : ∃ (av : Av) (Γ : G) (ra : R) (Γ1 : G) (rb : R) (Γ2 : G) (x0 dx dy : D) (r : R), Rel T X.K av Γ σ H ∧ ev C a Γ = some (ra, Γ1) ∧ (m = .join ∨ look Γ1 ra = some x0 ∧ mthK m (some x0) = true) ∧
    ev C b Γ1 = some (rb, Γ2) ∧ look Γ2 ra = some dx ∧ look Γ2 rb = some dy ∧ mth m dx [dy] = some r ∧ ∀ v H' av', Post T X.K σ av Γ H Γ2 r v H' av' → Q v H' := by
  obtain ⟨av, Γ, r, Γ', rl, e, q⟩ := h
  rw [ev] at e
  obtain ⟨⟨ra, Γ1⟩, e1, e⟩ := Option.bind_eq_some_iff.mp e
  dsimp only at e
  split at e
  · rename_i hk
    obtain ⟨⟨rs, Γ2⟩, e2, e⟩ := Option.bind_eq_some_iff.mp e
    obtain ⟨dx, e3, e⟩ := Option.bind_eq_some_iff.mp e
    obtain ⟨ds, e4, e⟩ := Option.bind_eq_some_iff.mp e
    obtain ⟨r0, e5, e⟩ := Option.map_eq_some_iff.mp e
    cases e
    rw [evA] at e2
    obtain ⟨⟨rb, Γ3⟩, e6, e2⟩ := Option.bind_eq_some_iff.mp e2
    obtain ⟨⟨rb', Γ4⟩, e7, e2⟩ := Option.bind_eq_some_iff.mp e2
    cases e7
    obtain ⟨⟨rs', Γ5⟩, e9, e2⟩ := Option.map_eq_some_iff.mp e2
    rw [evA] at e9
    cases e9
    cases e2
    rw [List.mapM_cons, List.mapM_nil] at e4
    obtain ⟨dy, e8, e4⟩ := Option.bind_eq_some_iff.mp e4
    cases e4
    cases hx : look Γ1 ra with
    | none => exact ⟨av, Γ, ra, Γ1, rb, _, .non, dx, dy, _, rl, e1, .inl (by rw [hx] at hk; cases m <;> first | rfl | cases hk), e6, e3, e8, e5, q⟩
    | some x0 => exact ⟨av, Γ, ra, Γ1, rb, _, x0, dx, dy, _, rl, e1, .inr ⟨hx, by rw [hx] at hk; exact hk⟩, e6, e3, e8, e5, q⟩
  · cases e
/-- xs.index(y) -/
theorem se_index {nm : Str} {apos : Pos} (hnm : nm = "index") (ha : SE T X x (ev C a)) (hb : SE T X y (ev C b)) (hB : baseE x = true) (hl : (apos.endLine == pos.line) = true) (hp : plainE y = true) :
    SE T X (.Call (.Attribute x nm apos) [y] [] pos) (ev C (.mth .index a (.cons b .nil))) := by
  subst hnm
  refine (pe_bm F.plainAttrs_list F.slot_list_index F.type_list_index mt_index ha (pa_cons hb pa_nil (star_eq hp [] X.env)) (base_eq hB _ _) (fewK (xs := [y]) (by simp [hp]) (by simp)) hl (star_eq hp [] X.env) rfl).imp fun σ H Q h => ?_
  obtain ⟨av, Γ, ra, Γ1, rb, Γ2, x0, dx, dy, r, rl, e1, hk, e6, e3, e8, e5, q⟩ := mth_parts h
  refine ⟨av, Γ, ra, Γ1, rl, e1, fun va H1 av1 P1 => ⟨?_, av1, Γ1, rb, Γ2, P1.rel, e6, fun vb H2 av2 P2 => ?_⟩⟩
  · rcases hk with hk | ⟨hk, hk2⟩
    · cases hk
    · cases x0 with
      | lst ws =>
        obtain ⟨p, us, rfl, h1, h2⟩ := vlst (look_ok P1.rel P1.rep hk)
        exact .inl ⟨rfl, us, SqL.of h1⟩
      | _ => cases hk2
  · have vx := look_ok P2.rel (P1.rep.fra P1.rel P2.fra) e3
    have vy := look_ok P2.rel P2.rep e8
    cases dx with
    | lst xs =>
      have e5 : (if flat dy && flats xs then (idxOfD dy xs).bind fun j => vl (.int j) else none) = some r := e5
      split at e5
      · rename_i hf
        rw [Bool.and_eq_true] at hf
        obtain ⟨j, e9, e10⟩ := Option.bind_eq_some_iff.mp e5
        cases e10
        obtain ⟨p, us, rfl, h1, h2⟩ := vlst vx
        have f1 := fv_of hf.1 vy
        have f2 := fvs_of hf.2 h2
        subst f1 f2
        unfold idxOfD at e9
        rw [List.findIdx?_eq_some_iff_getElem] at e9
        obtain ⟨hj, g1, g2⟩ := e9
        have fl : ∀ (i : Nat) (hi : i < xs.length), flat xs[i] = true := fun i hi => List.all_eq_true.mp hf.2 _ (List.getElem_mem hi)
        refine ⟨p, _, fv dy, j, fv xs[j], rfl, rfl, SqL.of h1, flat_fv hf.1, flats_fv hf.2, by rw [List.getElem?_map, List.getElem?_eq_getElem hj]; rfl, by rw [eqV_fv (fl j hj) hf.1]; exact g1, fun m z' hm hz => ?_, q _ _ _ (P2.rel.post0 (P1.fra.trans rl P2.fra) rint)⟩
        rw [List.getElem?_map, List.getElem?_eq_getElem (by omega)] at hz
        cases hz
        rw [eqV_fv (fl m (by omega)) hf.1]
        have := g2 m hm
        simpa using this
      · cases e5
    | _ => cases e5
/-- t.index(text) -/
theorem se_tindex {nm : Str} {apos : Pos} (hnm : nm = "index") (ha : SE T X x (ev C a)) (hb : SE T X y (ev C b)) (hB : baseE x = true) (hl : (apos.endLine == pos.line) = true) (hp : plainE y = true) :
    SE T X (.Call (.Attribute x nm apos) [y] [] pos) (ev C (.mth .tindex a (.cons b .nil))) := by
  subst hnm
  refine ⟨fun pins s σ H Q I h => ?_⟩
  obtain ⟨av, Γ, ra, Γ1, rb, Γ2, x0, dx, dy, r, rl, e1, hk, e6, e3, e8, e5, q⟩ := mth_parts h
  have hst : backTo pos (starEach [y] X.env) = [(false, eval y X.env)] := by
    rw [star_eq hp]
    rfl
  refine wpAny_Call_method (base_eq hB _ _) (fewK (env := X.env) (cpos := pos) (xs := [y]) (by simp [hp]) (by simp)) hl F.plainAttrs_tuple F.slot_tuple_index F.type_tuple_index (thn (ha.run pins s σ H _ I ⟨av, Γ, ra, Γ1, rl, e1, fun v H1 av1 P1 => (⟨av1, P1⟩ : ∃ av1, Post T X.K σ av Γ H Γ1 ra v H1 av1)⟩) fun u s1 ⟨v, H1, I1, rv, av1, P1⟩ => ?_)
  rcases hk with hk | ⟨hk, hk2⟩
  · cases hk
  cases x0 with
  | tup ws =>
    obtain ⟨p, us, rfl, h1, h2⟩ := vtup (look_ok P1.rel P1.rep hk)
    obtain rfl : u = Value.ref p := rv
    have ty : s1.TypeIs (.ref p) "tuple" ∧ ∀ c, Value.ref p = .ref c → ∃ ob, s1.heap.get? c = some ob ∧ ob.dict = none := by
      rcases h1 with ⟨o, h1, hd⟩ | ⟨o, its, n, k1, k2, k3, _⟩
      · obtain ⟨z1, z2, its, z3, o', z4, z5, _⟩ := I1.hok p _ h1
        rw [z1] at z4
        cases z4
        exact ⟨⟨o, z1, z5⟩, fun c e => by cases e; exact ⟨o, z1, hd⟩⟩
      · have z1 := I1.kIn _ _ k1
        exact ⟨⟨o, z1, k2⟩, fun c e => by cases e; exact ⟨o, z1, k3⟩⟩
    refine ⟨ty.1, ty.2, ?_⟩
    rw [hst]
    refine Calls.callWith_builtin rfl (Calls.evalArgs_plain (Calls.spliced_cons (thn (hb.run pins s1 σ H1 _ I1 ⟨av1, Γ1, rb, Γ2, P1.rel, e6, fun v H2 av2 P2 => (⟨av2, P2⟩ : ∃ av2, Post T X.K σ av1 Γ1 H1 Γ2 rb v H2 av2)⟩) fun iv s2 ⟨vb, H2, I2, rvb, av2, P2⟩ => Calls.spliced_nil ?_)))
    have vx := look_ok P2.rel (P1.rep.fra P1.rel P2.fra) e3
    have vy := look_ok P2.rel P2.rep e8
    cases dx with
    | tup xs => cases dy with
      | str z =>
        have e5 : ((strsD xs).bind fun ys => (ys.findIdx? fun y => y == z).bind fun j => vl (.int (j : Nat))) = some r := e5
        obtain ⟨ys, e9, e10⟩ := Option.bind_eq_some_iff.mp e5
        obtain ⟨j, e11, e12⟩ := Option.bind_eq_some_iff.mp e10
        cases e12
        obtain ⟨p', us', ep, g1, g2⟩ := vtup vx
        cases ep
        cases strs_rep e9 g2
        rw [vstr vy] at rvb
        rw [List.findIdx?_eq_some_iff_getElem] at e11
        obtain ⟨hj, w1, w2⟩ := e11
        refine mt_tup_index pins s2 σ H2 (.ref p) [.str z] (.ref p) [iv] Q I2 rfl (.cons rvb .nil) ⟨p, ys, z, j, rfl, rfl, g1.t, by rw [List.getElem?_eq_getElem hj, eq_of_beq w1], fun m hm hz => ?_, q _ _ _ (P2.rel.post0 (P1.fra.trans rl P2.fra) rint)⟩
        rw [List.getElem?_eq_getElem (by omega)] at hz
        have := w2 m hm
        rw [Option.some.inj hz] at this
        simp at this
      | _ => cases e5
    | _ => cases e5
  | _ => cases hk2
/-! ### slices with a step -/
theorem step_get {its : List Value} {lo hi : Option Int} {k : Int} : slicePick its.toArray lo hi (some k) = ((sliceRange (sliceBounds lo hi (some k) its.length).1 (sliceBounds lo hi (some k) its.length).2.1 (sliceBounds lo hi (some k) its.length).2.2).filterMap (its[·]?)).toArray := by
  unfold slicePick
  simp only [List.size_toArray, List.getElem?_toArray]
theorem fm_reps {K : PySem.W.Frag} {H : Hp} {av : Av} {ds : List D} {xs : List V} {us : List Value} (r : Reps T K H av ds xs) (v : Vals xs us) : ∀ (l : List Nat), ∃ ys, Reps T K H av (l.filterMap (ds[·]?)) ys ∧ Vals ys (l.filterMap (us[·]?))
  | [] => ⟨[], .nil, .nil⟩
  | i :: l => by
    obtain ⟨ys, h1, h2⟩ := fm_reps r v l
    have e1 := r.length
    have e2 := v.length
    cases hd : ds[i]? with
    | none =>
      have : us[i]? = none := by
        rw [List.getElem?_eq_none_iff] at hd ⊢
        omega
      refine ⟨ys, ?_, ?_⟩
      · rw [List.filterMap_cons, hd]; exact h1
      · rw [List.filterMap_cons, this]; exact h2
    | some d =>
      obtain ⟨w, q1, q2⟩ := r.get hd
      obtain ⟨u, q3, q4⟩ := v.get q1
      refine ⟨w :: ys, ?_, ?_⟩
      · rw [List.filterMap_cons, hd]; exact .cons q2 h1
      · rw [List.filterMap_cons, q3]; exact .cons q4 h2
theorem se_slx {lo hi : Eo} {xl xh : Option Expr} {p2 : Pos} (ha : SE T X x (ev C a)) (hl : SO T X xl (evO C lo)) (hh : SO T X xh (evO C hi)) (hk : SE T X y (ev C c)) : SE T X (.Subscript x (.Slice xl xh (some y) p2) pos) (ev C (.slx a lo hi c)) := by
  refine ⟨fun pins s σ H Q I h => ?_⟩
  obtain ⟨av, Γ, r, Γ', rl, e, q⟩ := h
  rw [ev] at e
  obtain ⟨⟨ra, Γ1⟩, e1, e⟩ := Option.bind_eq_some_iff.mp e
  obtain ⟨⟨l, Γ2⟩, e2, e⟩ := Option.bind_eq_some_iff.mp e
  obtain ⟨⟨h, Γ3⟩, e3, e⟩ := Option.bind_eq_some_iff.mp e
  obtain ⟨⟨rk, Γ4⟩, e4, e⟩ := Option.bind_eq_some_iff.mp e
  obtain ⟨dx, e5, e⟩ := Option.bind_eq_some_iff.mp e
  rcases (show (∃ k, rk = .val (.int k)) ∨ ∀ z : Int → Option (R × G), (match rk with | .val (.int k) => z k | _ => none) = none by
    cases rk with
    | val d => cases d with
      | int k => exact .inl ⟨k, rfl⟩
      | _ => exact .inr fun _ => rfl
    | _ => exact .inr fun _ => rfl) with ⟨k, rfl⟩ | hz
  · obtain ⟨r0, e6, e⟩ := Option.map_eq_some_iff.mp e
    cases e
    refine Subscript_ (thn (ha.run pins s σ H _ I ⟨av, Γ, ra, Γ1, rl, e1, fun v H1 av1 P1 => (⟨av1, P1⟩ : ∃ av1, Post T X.K σ av Γ H Γ1 ra v H1 av1)⟩) fun v s1 ⟨xv, H1, I1, r1, av1, P1⟩ => ?_)
    refine wpAny_Slice ?_
    refine thn (hl.run pins s1 σ H1 (fun o H2 => o = l ∧ ∃ av2, PostN T X.K σ av1 Γ1 H1 Γ2 H2 av2) I1 ⟨av1, Γ1, l, Γ2, P1.rel, e2, fun H2 av2 P2 => ⟨rfl, av2, P2⟩⟩) fun vl s2 ⟨l', H2, I2, pl, el, av2, P2⟩ => ?_
    subst el
    refine thn (hh.run pins s2 σ H2 (fun o H3 => o = h ∧ ∃ av3, PostN T X.K σ av2 Γ2 H2 Γ3 H3 av3) I2 ⟨av2, Γ2, h, Γ3, P2.rel, e3, fun H3 av3 P3 => ⟨rfl, av3, P3⟩⟩) fun vu s3 ⟨h', H3, I3, pu, eh, av3, P3⟩ => ?_
    subst eh
    have hk' : SO T X (some y) (evO C (.som c)) := so_some hk
    have e4' : evO C (.som c) Γ3 = some (some k, Γ') := by rw [evO, e4]; rfl
    refine thn (hk'.run pins s3 σ H3 (fun o H4 => o = some k ∧ ∃ av4, PostN T X.K σ av3 Γ3 H3 Γ' H4 av4) I3 ⟨av3, Γ3, some k, Γ', P3.rel, e4', fun H4 av4 P4 => ⟨rfl, av4, P4⟩⟩) fun vk s4 ⟨k', H4, I4, pk, ek, av4, P4⟩ => ?_
    subst ek
    have I5 : Inv X pins σ H4 { s4 with heap := s4.heap.push { cls := .type "slice", data := .fields #[vl, vu, vk] } } := I4.kept (t' := s4.toks) fun b ob q => Heap.get?_push_of_some _ q
    have fr : Fra σ Γ av H σ Γ' av4 H4 := ((P1.fra.trans rl P2.fra).trans rl P3.fra).trans rl P4.fra
    have vr := look_ok P4.rel (((P1.rep.fra P1.rel P2.fra).fra P2.rel P3.fra).fra P3.rel P4.fra) e5
    -- the list that is cut
    obtain ⟨ds, p, xs, h1, h2, h0, e7⟩ : ∃ ds p xs, xv = .ref p ∧ SqL X.K H4 p xs ∧ (k ≠ 0 ∧ Reps T X.K H4 av4 ds xs) ∧ r = .fr (.lst (stepD ds l' h' k)) := by
      cases dx with
      | lst ds =>
        obtain ⟨p, xs, h1, h2, h3⟩ := vlst vr
        have e6 : (if k ≠ 0 then nl (stepD ds l' h' k) else none) = some r := e6
        split at e6
        · rename_i hk0
          cases e6
          exact ⟨ds, p, xs, h1, SqL.of h2, ⟨hk0, h3⟩, rfl⟩
        · cases e6
      | scr ds =>
        obtain ⟨p, xs, h1, h2, h3⟩ := vscr vr
        have e6 : (if k ≠ 0 then nl (stepD ds l' h' k) else none) = some r := e6
        split at e6
        · rename_i hk0
          cases e6
          exact ⟨ds, p, xs, h1, h2, ⟨hk0, h3⟩, rfl⟩
        · cases e6
      | _ => cases e6
    subst h1 e7
    cases (show v = Value.ref p from r1)
    obtain ⟨its, rv, ht, hz⟩ := I5.list h2
    have hlen := rv.length
    have hlenD := h0.2.length
    obtain ⟨ys, y1, y2⟩ := fm_reps h0.2 rv (sliceRange (sliceBounds l' h' (some k) its.length).1 (sliceBounds l' h' (some k) its.length).2.1 (sliceBounds l' h' (some k) its.length).2.2)
    refine tail_any (ops := [.ref p, .ref s4.heap.objs.size]) ht.isList.typeIs slot_list_getitem.lookup ?_ (by with_unfolding_all rfl)
    refine wpAny_getItem_list_slice ht.isList (Heap.IsSliceOf.new ..) pl pu pk (by have := h0.1; simp; omega) ?_ (by rw [List.size_toArray] <;> omega)
    rw [step_get]
    have hle := slicePick_size_le its.toArray l' h' (some k)
    rw [step_get] at hle
    rw [List.size_toArray, List.size_toArray] at hle
    have hD : stepD ds l' h' k = (sliceRange (sliceBounds l' h' (some k) its.length).1 (sliceBounds l' h' (some k) its.length).2.1 (sliceBounds l' h' (some k) its.length).2.2).filterMap (ds[·]?) := by
      unfold stepD
      rw [hlenD, hlen]
    rw [hD] at q
    refine ⟨.ref _, _, I5.laid (t' := s4.toks) (o := .lst ys) (fun b ob q => Heap.get?_push_of_some _ q) (Nat.le_refl _) ⟨by rw [y2.length]; omega, _, 0, y2, Heap.get?_push_size _ rfl⟩, rfl, ?_⟩
    exact q _ _ _ (Res.post rl P4.rel fr (.lst (I5.hok.fresh (Nat.le_refl _)) y1))
  · exact nomatch (hz fun k => (slxD l h k dx).map fun r => (r, Γ4)).symm.trans e
end
end Mi

namespace Mi
open PySem PySem.Spec L2
open PyProof.Rows hiding St

/-! ## classes: fields, methods, new instances -/
/-- a def that stands at a, as it is called by a way p; up: how far below the room that it is run -/
structure FnA (T : Cls2) (P : Program) (w : World) (K : PySem.W.Frag) (mg : Str → Option Value) (base : Heap) (A : Around) (a : Addr) (f : Sem1) (p : FI) (up : Nat) : Prop where
  ex : ∃ (fd : FuncData) (ps : List Str) (k : Nat) (g : List Value → List Value → List Value) (gV : List V → List V → List V),
    FnG P w K mg base CX0 k a fd ps (spOf T K p.src.length f) ∧ (Room (k + up) A ∧ A.guards = some []) ∧ KBn K fd ps p.n p.ks g gV ∧ ∀ vs zs : List V, vs.length = p.n → zs.length = p.ks.length → SrcV T K (vs ++ zs) p.src (gV vs zs)
  nd : SrcNd p.src
/-- a method: p.nm its name, p.n with the instance -/
structure MI where
  c : Nat
  fi : FI
structure MtC (T : Cls2) (C : Ctx) (P : Program) (w : World) (K : PySem.W.Frag) (mg : Str → Option Value) (base : Heap) (A : Around) (p : MI) : Prop where
  cl : Cls K (T.cls p.c)
  no : ∀ xs : List V, ((T.flds p.c).zip xs).lookup p.fi.nm = none
  ex : ∃ a, Meth K (T.cls p.c) p.fi.nm a ∧ FnA T P w K mg base A a (C.ft p.fi.f) p.fi 0
/-- a class that is called -/
structure MkC (T : Cls2) (C : Ctx) (P : Program) (w : World) (K : PySem.W.Frag) (mg : Str → Option Value) (base : Heap) (A : Around) (p : MI) : Prop where
  gl : mg p.fi.nm = some (.ref (T.cls p.c))
  ex : (∀ is, C.fi p.fi.f is = none) ∨ ∃ a, Mk K (T.cls p.c) a ∧ FnA T P w K mg base A a (C.fi p.fi.f) p.fi 1
structure ClC (T : Cls2) (K : PySem.W.Frag) (c : Nat) : Prop where
  cl : Cls K (T.cls c)
  no : ∀ f ∈ T.flds c, NoAttr K (T.cls c) f
  nd : (T.flds c).Nodup
  few : (T.flds c).length ≤ 900
section
variable {T : Cls2} {K : PySem.W.Frag} {H H0 H' : Hp} {av av0 : Av} {Γ Γ0 Γ1 : G} {σ : St}
/-- a new instance ahead of arguments -/
theorem PostA.front {c : Nat} {x dx : Addr} {rs : List R} {vs : List V} (rl0 : Rel T K av0 Γ0 σ H0) (A : PostA T K σ av0 Γ0 H0 Γ1 rs vs H av) (hx : H x = none) (hd : H dx = none) (hne : dx ≠ x) :
    PostA T K σ av0 Γ0 H0 Γ1 (.fr (.ins c []) :: rs) (.ref x :: vs) (upd (upd H dx (.own x)) x (.ins (T.cls c) dx [])) (fun a => (av a ∨ (false = true ∧ a = dx)) ∨ (true = true ∧ a = x)) := by
  have rl1 := alloc_rel (u := .own x) A.rel hd false
  have f1 := alloc_fra (σ := σ) (Γ := Γ1) (av := av) (u := .own x) hd false
  have hx1 : (upd H dx (.own x)) x = none := by rw [upd_ne (Ne.symm hne)]; exact hx
  have rl2 := alloc_rel (u := .ins (T.cls c) dx []) rl1 hx1 true
  have f2 := alloc_fra (σ := σ) (Γ := Γ1) (av := fun a => av a ∨ (false = true ∧ a = dx)) (u := .ins (T.cls c) dx []) hx1 true
  have f12 := f1.trans A.rel f2
  have nh : ¬ Held Γ1 σ x := fun z => by
    obtain ⟨_, u, hu, _⟩ := A.rel.held z
    rw [hx] at hu
    cases hu
  refine ⟨rl2, ⟨.ref x, vs, rfl, ⟨x, rfl, ?_, .inr ⟨rfl, rfl⟩, A.fra.free hx, nh⟩, A.rep.fra A.rel f12⟩, ?_, ?_⟩
  · exact ⟨dx, [], by rw [upd_same]; simp, Nat.zero_le _, .nil⟩
  · have hd : ∀ (j : Nat) q, rs[j]? = some q → IsFr q → vs[j]? = some (.ref x) → False := fun j q hq f e => by
      obtain ⟨w, e2, h2⟩ := A.rep.get hq
      obtain ⟨p', e3, h3, u, hu⟩ := fr_new f h2
      rw [e] at e2
      cases e2
      cases e3
      rw [hx] at hu
      cases hu
    intro i j q q' w h1 h2 g1 g2 e1 e2
    cases i with
    | zero => cases j with
      | zero => rfl
      | succ j =>
        simp at h1 h2 e1 e2
        subst e1
        exact (hd j q' h2 g2 e2).elim
    | succ i => cases j with
      | zero =>
        simp at h1 h2 e1 e2
        subst e2
        exact (hd i q h1 g1 e1).elim
      | succ j =>
        simp at h1 h2 e1 e2
        rw [A.apt i j q q' w h1 h2 g1 g2 e1 e2]
  · exact A.fra.trans rl0 f12
end
/-- C(..) -/
theorem fnG_make {X : Cx} {k n : Nat} {f C : Addr} {fd : FuncData} {ps ks : List Str} {sp : Sp} {g : List Value → List Value → List Value} {gV : List V → List V → List V} {pins : List (Addr × Obj)} {σ : L2.St} {H : Hp} {s : Shared} {Q : VK} {us ws : List Value} {vs zs : List V}
    (M : Mk X.K C f) (F : FnG X.prog X.w X.K X.mg X.base CX0 k f fd ps sp) (hr : Room (k + 1) X.A) (hg : X.A.guards = some []) (hb : KBn X.K fd ps (n + 1) ks g gV) (I : Inv X pins σ H s) (r : Vals vs us) (rz : Vals zs ws) (l1 : vs.length = n) (l2 : zs.length = ks.length)
    (h : ∀ x dx, H x = none → H dx = none → dx ≠ x → sp (gV (.ref x :: vs) zs) (upd (upd H dx (.own x)) x (.ins C dx [])) (fun v H2 => v = .non ∧ Q (.ref x) H2) E0) :
    wpAny (model X.prog X.w) X.A (call (.ref C) us (ks.zip ws)) (EP X pins σ Q) X.xe s := by
  have hq := h (s.heap.objs.size + 1) s.heap.objs.size (I.hok.fresh (Nat.le_succ _)) (I.hok.fresh (Nat.le_refl _)) (Nat.ne_of_lt (Nat.lt_succ_self _))
  have I2 := Inv.made (C := C) I
  have r1 : Vals (V.ref (s.heap.objs.size + 1) :: vs) (Value.ref (s.heap.objs.size + 1) :: us) := .cons rfl r
  have r2 := hb.rel r1 rz
  have e1 : (Value.ref (s.heap.objs.size + 1) :: us).length = n + 1 := r1.length.symm.trans (congrArg Nat.succ l1)
  have e2 : ws.length = ks.length := rz.length.symm.trans l2
  refine wpAny_call (make_map (f := f) I.kIn M.makes M.init (beq_iff_eq.mp M.fn) (codeAny_mono (F.run _ X.stack _ _ ⟨Value.ref (s.heap.objs.size + 1) :: us, ks.zip ws⟩ (g (Value.ref (s.heap.objs.size + 1) :: us) ws) _ _ _ (hr.make C us (ks.zip ws)) hg
    (I2.env0.make C us (ks.zip ws)) (hb.to _ (Value.ref (s.heap.objs.size + 1) :: us) ws I2.kIn e1 e2) r2 hq) fun r s' hq' => ?_))
  cases r with
  | error e => exact pass0 pins σ _ _ e s' I2 hq'
  | ok fl =>
    cases fl with
    | ret u =>
      obtain ⟨v, H', I3, rv, ev, q3⟩ := I2.after hq'
      subst ev
      exact ⟨rv, ⟨V.ref (s.heap.objs.size + 1), H', I3, rfl, q3⟩⟩
    | next => exact False.elim hq'
    | brk => exact False.elim hq'
    | cont => exact False.elim hq'
theorem isIns_of {c : Nat} {d : D} (h : isIns c d = true) : ∃ ds, d = .ins c ds := by
  cases d with
  | ins c' ds => exact ⟨ds, by rw [show c' = c from of_decide_eq_true h]⟩
  | _ => cases h
theorem vins {T : Cls2} {K : PySem.W.Frag} {H : Hp} {av : Av} {c : Nat} {ds : List D} {v : V} (h : VRep T K H av (.ins c ds) v) : ∃ a dx xs, v = .ref a ∧ H a = some (.ins (T.cls c) dx ((T.flds c).zip xs)) ∧ xs.length ≤ (T.flds c).length ∧ Reps T K H av ds xs := h
theorem lookup_zip : ∀ {fs : List Str} {xs : List V} {j : Nat} {f : Str} {v : V}, fs.Nodup → fs[j]? = some f → xs[j]? = some v → (fs.zip xs).lookup f = some v
  | [], _, _, _, _, _, h, _ => by simp at h
  | _ :: _, [], _, _, _, _, _, h => by simp at h
  | g :: fs, x :: xs, 0, f, v, nd, h1, h2 => by
    simp at h1 h2
    subst h1 h2
    rw [List.zip_cons_cons, List.lookup_cons, beq_self_eq_true]
  | g :: fs, x :: xs, j + 1, f, v, nd, h1, h2 => by
    obtain ⟨n1, n2⟩ := List.nodup_cons.mp nd
    have hf : f ∈ fs := List.mem_of_getElem? (by simpa using h1)
    have hb : (f == g) = false := beq_eq_false_iff_ne.mpr fun e => n1 (by rw [← e]; exact hf)
    rw [List.zip_cons_cons, List.lookup_cons, hb]
    exact lookup_zip n2 (by simpa using h1) (by simpa using h2)
theorem putF_zip : ∀ {fs : List Str} {xs : List V} {j : Nat} {f : Str} {v : V}, fs.Nodup → fs[j]? = some f → j ≤ xs.length → putF f v (fs.zip xs) = fs.zip (if j < xs.length then xs.set j v else xs ++ [v])
  | [], _, _, _, _, _, h, _ => by simp at h
  | g :: fs, [], j, f, v, nd, h1, h2 => by
    have : j = 0 := by simpa using h2
    subst this
    simp at h1
    subst h1
    simp [putF]
  | g :: fs, x :: xs, 0, f, v, nd, h1, h2 => by
    simp at h1
    subst h1
    simp [putF]
  | g :: fs, x :: xs, j + 1, f, v, nd, h1, h2 => by
    obtain ⟨n1, n2⟩ := List.nodup_cons.mp nd
    have hf : f ∈ fs := List.mem_of_getElem? (by simpa using h1)
    have hb : ¬ g = f := fun e => n1 (by rw [e]; exact hf)
    have ih := putF_zip (v := v) (xs := xs) (j := j) n2 (by simpa using h1) (by simpa using h2)
    rw [List.zip_cons_cons]
    show (if g = f then _ else (g, x) :: putF f v (fs.zip xs)) = _
    rw [if_neg hb, ih]
    by_cases hj : j < xs.length
    · rw [if_pos hj, if_pos (by simpa using hj)]
      rfl
    · rw [if_neg hj, if_neg (by simpa using hj)]
      rfl
section
variable {X : Cx} {T : Cls2} {C : Ctx} {pos p1 apos : Pos} {x y z : Expr} {a b : E} {pin : List Nat}
/-- o.f -/
theorem se_fld {c j : Nat} {n : Str} (cl : ClC T X.K c) (hn : (T.flds c)[j]? = some n) (ha : SE T X x (ev C a)) (hB : baseE x = true) : SE T X (.Attribute x n pos) (ev C (.fld a c j)) := by
  refine (pe_fld ha (base_eq hB _ _)).imp fun σ H Q ⟨av, Γ, r, Γ', rl, e, q⟩ => ?_
  rw [ev] at e
  obtain ⟨⟨ra, Γ1⟩, e1, e⟩ := Option.bind_eq_some_iff.mp e
  obtain ⟨dx, e3, e⟩ := Option.bind_eq_some_iff.mp e
  obtain ⟨d, e4, e⟩ := Option.map_eq_some_iff.mp e
  cases e
  refine ⟨av, Γ, ra, _, rl, e1, fun va H1 av1 P1 => ?_⟩
  have vr := look_ok P1.rel P1.rep e3
  cases dx with
  | ins c' ds =>
    unfold fldD at e4
    simp only at e4
    split at e4
    · rename_i hc
      subst hc
      obtain ⟨p, dxa, xs, rfl, h1, h2, h3⟩ := vins vr
      obtain ⟨v, g1, g2⟩ := h3.get e4
      exact ⟨p, _, _, _, v, rfl, h1, cl.cl, cl.no n (List.mem_of_getElem? hn), lookup_zip cl.nd hn g1, q _ _ _ ⟨P1.rel, g2, P1.fra⟩⟩
    · cases e4
  | _ => cases e4
/-- C(.., k = ..) -/
theorem se_mk {p : MI} {nm : Str} {acc acc2 : List Bool} {es ks : Es} {xs : List Expr} {kws : List Keyword} (F : MkC T C X.prog X.w X.K X.mg X.base X.A p) (h0 : p.fi.src[0]? = some (.arg 0)) (hnm : nm = p.fi.nm) (hg : Gl X nm) (hdb : (nm == ("__debug__" : Str)) = false)
    (ha : SA T X xs (evA C es acc)) (hk : SK T X kws (evA C ks acc2)) (hp : xs.all plainE = true) (hks : kws.map (·.arg) = p.fi.ks.map some) (hl : xs.length = es.len) (hn : es.len + 1 = p.fi.n) (hn2 : ks.len = p.fi.ks.length) :
    SE T X (.Call (.Name nm p1) xs kws pos) (ev C (.mk p.c p.fi.f acc es acc2 ks p.fi.src)) := by
  subst hnm
  obtain ⟨kall, kfil, kno⟩ := kw_all X.env pos hks
  refine ⟨fun pins s σ H Q I h => ?_⟩
  obtain ⟨av, Γ, r, Γ', rl, e, q⟩ := h
  rw [ev] at e
  obtain ⟨⟨rs, Γ1⟩, e1, e⟩ := Option.bind_eq_some_iff.mp e
  obtain ⟨⟨qs, Γ2⟩, e2, e⟩ := Option.bind_eq_some_iff.mp e
  have e : makeT C.fi p.c p.fi.f p.fi.src (rs ++ qs) Γ2 = some (r, Γ') := e
  unfold makeT at e
  obtain ⟨rs', e3, e⟩ := Option.bind_eq_some_iff.mp e
  obtain ⟨⟨is, Γ3⟩, e4, e⟩ := Option.bind_eq_some_iff.mp e
  obtain ⟨⟨rt, os⟩, e5, e⟩ := Option.bind_eq_some_iff.mp e
  obtain ⟨ds, os', eos, ert, er⟩ : ∃ ds os', os = .own (.ins p.c ds) :: os' ∧ rt = .val .non ∧ (R.fr (.ins p.c ds), backs rs' is os Γ3) = (r, Γ') := by
    simp only at e
    split at e
    · split at e
      · rename_i hc
        subst hc
        exact ⟨_, _, rfl, rfl, Option.some.inj e⟩
      · cases e
    · cases e
  subst eos ert
  cases er
  rcases F.ex with hno | ⟨ad, M, ⟨fd, ps, k, g, gV, ok, hr, kb, sv⟩, nd⟩
  · rw [hno] at e5; cases e5
  refine wpAny_Call_Name_kw (ld_glob I hg F.gl ?_ hdb)
  have fin : ∀ (s2 : Shared) (us ws : List Value) (vs zs : List V) (H1 H2 : Hp) (av1 av2 : Av), Inv X pins σ H2 s2 → Vals vs us → Vals zs ws → PostA T X.K σ av Γ H Γ1 rs vs H1 av1 → PostA T X.K σ av1 Γ1 H1 Γ2 qs zs H2 av2 →
      wpAny (model X.prog X.w) X.A (call (.ref (T.cls p.c)) us (p.fi.ks.zip ws)) (EP X pins σ Q) X.xe s2 := fun s2 us ws vs zs H1 H2 av1 av2 I2 rv rz P1 P2 => by
    have l1 : vs.length = es.len := by rw [← P1.rep.length, evA_len e1]
    have l2 : zs.length = p.fi.ks.length := by rw [← P2.rep.length, evA_len e2, hn2]
    rw [← hn] at kb
    refine fnG_make M ok hr.1 hr.2 kb I2 rv rz l1 l2 fun x dx hx hdx hne => ?_
    have S := sv (.ref x :: vs) zs (by rw [List.length_cons, l1, hn]) l2
    have PA := (PostA.append rl P1 P2).front (c := p.c) rl hx hdx hne
    have PA' : PostA T X.K σ av Γ H Γ2 rs' (gV (.ref x :: vs) zs) (upd (upd H2 dx (.own x)) x (.ins (T.cls p.c) dx [])) _ := ⟨PA.rel, pick_reps PA.rep S e3, pick_apart nd PA.apt S e3, PA.fra⟩
    -- the instance is the first argument
    obtain ⟨g0, g1⟩ : rs'[0]? = some (.fr (.ins p.c [])) ∧ (gV (.ref x :: vs) zs)[0]? = some (.ref x) := by
      cases hs : p.fi.src with
      | nil => rw [hs] at h0; cases h0
      | cons s0 ss =>
        rw [hs] at h0 e3 S
        cases h0
        unfold pick at e3
        obtain ⟨q1, h1, e3⟩ := Option.bind_eq_some_iff.mp e3
        obtain ⟨q2, h2, e3⟩ := Option.map_eq_some_iff.mp e3
        cases e3
        cases h1
        obtain ⟨v, r, e6, e7, _⟩ := S
        cases e7
        rw [e6]
        exact ⟨rfl, rfl⟩
    refine call_sp2 (E := E0) rl PA' S.length e4 e5 fun v H' av' P ex => ⟨?_, ?_⟩
    · exact vnon (Post.vr P)
    · exact q _ _ _ ⟨P.rel, ex 0 _ _ x g0 g1 rfl, P.fra⟩
  cases xs with
  | nil =>
    cases es with
    | cons _ _ => cases hl
    | nil =>
      rw [evA] at e1
      cases e1
      refine PySem.W.callWith_KW0 (h₀ := X.base) I.ok.mod.kin M.kp kall ?_ (by rw [kno]; rfl)
      refine thn (hk.run pos pins s σ H _ I ⟨av, Γ, qs, Γ2, rl, e2, fun zs H2 av2 P2 => (⟨av2, P2⟩ : ∃ av2, PostA T X.K σ av Γ H Γ2 qs zs H2 av2)⟩) fun ws s2 ⟨zs, H2, I2, rz, av2, P2⟩ => ⟨I2.kIn, ?_⟩
      rw [kfil]
      exact fin s2 [] ws [] zs H H2 av av2 I2 .nil rz (.nil rl) P2
  | cons x0 xs =>
    rw [List.all_cons, Bool.and_eq_true] at hp
    have hst : (backTo pos (starEach (x0 :: xs) X.env)).any (·.1) = false := by
      rw [star_eq hp.1]
      show (false || (backTo pos (starEach xs X.env)).any (·.1)) = false
      rw [stars_no X.env pos hp.2]; rfl
    refine PySem.W.callWith_KW (h₀ := X.base) I.ok.mod.kin M.kp kall ?_ (by rw [hst, kno]; rfl) (star_eq hp.1 xs X.env)
    refine thn (ha.run pos pins s σ H _ I ⟨av, Γ, rs, Γ1, rl, e1, fun vs H1 av1 P1 => (⟨av1, P1⟩ : ∃ av1, PostA T X.K σ av Γ H Γ1 rs vs H1 av1)⟩) fun us s1 ⟨vs, H1, I1, rv, av1, P1⟩ => ?_
    refine thn (hk.run pos pins s1 σ H1 _ I1 ⟨av1, Γ1, qs, Γ2, P1.rel, e2, fun zs H2 av2 P2 => (⟨av2, P2⟩ : ∃ av2, PostA T X.K σ av1 Γ1 H1 Γ2 qs zs H2 av2)⟩) fun ws s2 ⟨zs, H2, I2, rz, av2, P2⟩ => ⟨I2.kIn, ?_⟩
    rw [kfil]
    exact fin s2 us ws vs zs H1 H2 av1 av2 I2 rv rz P1 P2
/-- o.m(..) -/
theorem se_mcl {p : MI} {nm : Str} {acc : List Bool} {es : Es} {xs : List Expr} (F : MtC T C X.prog X.w X.K X.mg X.base X.A p) (hnm : nm = p.fi.nm) (hks : p.fi.ks = []) (ha : SE T X x (ev C a)) (hs : SA T X xs (evA C es acc.tail)) (hB : baseE x = true) (hp : xs.all plainE = true)
    (hl : xs.length = es.len) (hn : es.len + 1 = p.fi.n) (hline : (apos.endLine == pos.line) = true) (h30 : xs.length < 30) : SE T X (.Call (.Attribute x nm apos) xs [] pos) (ev C (.mcl p.c p.fi.f acc a es p.fi.src)) := by
  subst hnm
  obtain ⟨ad, M, ⟨fd, ps, k, g, gV, ok, hr, kb, sv⟩, nd⟩ := F.ex
  rw [hks] at kb sv
  refine ⟨fun pins s σ H Q I h => ?_⟩
  obtain ⟨av, Γ, r, Γ', rl, e, q⟩ := h
  rw [ev] at e
  obtain ⟨⟨ra, Γ1⟩, e1, e⟩ := Option.bind_eq_some_iff.mp e
  obtain ⟨dx, e2, e⟩ := Option.bind_eq_some_iff.mp e
  split at e
  · rename_i hins
    obtain ⟨⟨ra', Γ2⟩, e3, e⟩ := Option.bind_eq_some_iff.mp e
    obtain ⟨⟨rs, Γ3⟩, e4, e⟩ := Option.bind_eq_some_iff.mp e
    have e : callT C.ft p.fi.f p.fi.src (ra' :: rs) Γ3 = some (r, Γ') := e
    unfold callT at e
    obtain ⟨rs', e5, e⟩ := Option.bind_eq_some_iff.mp e
    obtain ⟨⟨is, Γ4⟩, e6, e⟩ := Option.bind_eq_some_iff.mp e
    obtain ⟨⟨rt, os⟩, e7, e⟩ := Option.bind_eq_some_iff.mp e
    cases e
    obtain ⟨fds, hfds⟩ := isIns_of hins
    subst hfds
    have hfew := fewK (env := X.env) (cpos := pos) hp h30
    have hform : methodCallForm (xs.length + ([] : List Keyword).length) (backTo pos (starEach xs X.env)) (backToKw pos (keywordEach [] X.env)) = true := hfew
    have hpos : methodCallPos true x X.env apos pos = pure pos := by unfold methodCallPos; simp [hline]
    rw [arm_eval_Call, base_eq hB]
    refine wpAny_bind (thn (ha.run pins s σ H _ I ⟨av, Γ, ra, Γ1, rl, e1, fun v H1 av1 P1 => (⟨av1, P1⟩ : ∃ av1, Post T X.K σ av Γ H Γ1 ra v H1 av1)⟩) fun u s1 ⟨v, H1, I1, rv, av1, P1⟩ => ?_)
    obtain ⟨pa, dxa, fxs, rfl, h1, h2, h3⟩ := vins (look_ok P1.rel P1.rep e2)
    obtain rfl : u = Value.ref pa := rv
    refine wpAny_bind (wpAny_standAt ?_)
    unfold methodCall
    rw [hform]
    refine wpAny_bind (wpAny_holding (getmeth_ok I1 h1 F.cl M (F.no fxs) (wpAny_bind (wpAny_of_eq hpos ?_))))
    obtain ⟨av2, P2⟩ := acc_ok rl P1 e3
    have fin : ∀ (s2 : Shared) (us : List Value) (vs : List V) (H2 : Hp) (av3 : Av), Inv X pins σ H2 s2 → Vals vs us → PostA T X.K σ av2 Γ2 H1 Γ3 rs vs H2 av3 →
        wpAny (model X.prog X.w) X.A (call (.ref ad) (.ref pa :: us) (([] : List Str).zip [])) (EP X pins σ Q) X.xe s2 := fun s2 us vs H2 av3 I2 rvs P3 => by
      have l1 : (V.ref pa :: vs).length = p.fi.n := by rw [List.length_cons, ← P3.rep.length, evA_len e4, hn]
      have S := sv (.ref pa :: vs) [] l1 rfl
      rw [List.append_nil] at S
      have PA := P3.cons rl P2
      have PA' : PostA T X.K σ av Γ H Γ3 rs' (gV (.ref pa :: vs) []) H2 av3 := ⟨PA.rel, pick_reps PA.rep S e5, pick_apart nd PA.apt S e5, PA.fra⟩
      refine fnG_call (ks := []) ok hr.1 hr.2 kb pass0 I2 (show Vals (V.ref pa :: vs) (Value.ref pa :: us) from .cons rfl rvs) (show Vals ([] : List V) [] from .nil) l1 rfl (call_sp (E := E0) rl PA' S.length e6 e7 fun v H' av' P => q v H' av' P)
    cases xs with
    | nil =>
      cases es with
      | cons _ _ => cases hl
      | nil =>
        rw [evA] at e4
        cases e4
        exact PySem.W.callWith_K0 (first := [.ref pa]) I1.kIn M.kp (fin s1 [] [] H1 av2 I1 .nil (.nil P2.rel))
    | cons x0 xs =>
      rw [List.all_cons, Bool.and_eq_true] at hp
      refine PySem.W.callWith_K (first := [.ref pa]) (h₀ := X.base) I1.ok.mod.kin M.kp (thn (hs.run pos pins s1 σ H1 _ I1 ⟨av2, Γ2, rs, Γ3, P2.rel, e4, fun vs H2 av3 P3 => (⟨av3, P3⟩ : ∃ av3, PostA T X.K σ av2 Γ2 H1 Γ3 rs vs H2 av3)⟩) fun us s2 ⟨vs, H2, I2, rvs, av3, P3⟩ => ⟨I2.kIn, ?_⟩) (star_eq hp.1 xs X.env) (stars_no X.env pos hp.2)
      exact fin s2 us vs H2 av3 I2 rvs P3
  · cases e
/-- o.f = e -/
theorem ss_setf {c j : Nat} {n : Str} {p2 : Pos} (cl : ClC T X.K c) (hn : (T.flds c)[j]? = some n) (hb : SE T X y (ev C b)) (ha : SE T X x (ev C a)) (hs : ∀ t l, swapsWith x t l X.env = pure false) :
    PS X (.Assign [.Attribute y n p2] x pos) (fun D σ H => ∃ av Γ Γ', Rel T X.K av Γ σ H ∧ ex C (.setf b c j a) Γ = some (.nx, Γ') ∧ ∀ H' av', PostN T X.K σ av Γ H Γ' H' av' → D.nx σ H') := by
  refine (ps_fld hb ha (hs _ _)).imp fun D σ H ⟨av, Γ, Γ', rl, e, q⟩ => ?_
  rw [ex] at e
  obtain ⟨⟨r, Γ1⟩, e1, e⟩ := Option.bind_eq_some_iff.mp e
  obtain ⟨⟨d, Γ2⟩, e2, e⟩ := Option.bind_eq_some_iff.mp e
  obtain ⟨⟨rb, Γ3⟩, e3, e⟩ := Option.bind_eq_some_iff.mp e
  simp only at e
  split at e
  · rename_i i
    split at e
    · rename_i o ho
      obtain ⟨o', e4, e⟩ := Option.map_eq_some_iff.mp e
      cases e
      refine ⟨av, Γ, r, Γ1, rl, e1, fun v H1 av1 P1 => ?_⟩
      obtain ⟨av2, P2⟩ := frz_ok rl P1 e2
      refine ⟨av2, Γ2, _, Γ3, P2.rel, e3, fun vb H2 av3 P3 => ?_⟩
      obtain ⟨p, rfl, hp⟩ := P3.rep
      obtain ⟨q', hq, h1, h2⟩ := P3.rel.own ho
      rw [hp] at hq
      cases hq
      cases o with
      | ins c' ds =>
        unfold fldS at e4
        simp only at e4
        split at e4
        · rename_i hc
          subst hc
          obtain ⟨dx, xs, g1, g2, g3⟩ := h2
          have hdl := g3.length
          have rv : Rep T X.K H2 av3 d v := Rep.kp (P3.fra.kp P2.rel) P2.dat
          have hjl : j < (T.flds c').length := (List.getElem?_eq_some_iff.mp hn).1
          have key : j ≤ xs.length ∧ ∃ ds', o' = .ins c' ds' ∧ Reps T X.K H2 av3 ds' (if j < xs.length then xs.set j v else xs ++ [v]) ∧ (if j < xs.length then xs.set j v else xs ++ [v]).length ≤ (T.flds c').length := by
            split at e4
            · rename_i hj
              cases e4
              refine ⟨by omega, _, rfl, ?_, ?_⟩
              · rw [if_pos (by omega)]; exact g3.set rv j
              · rw [if_pos (by omega), List.length_set]; exact g2
            · split at e4
              · rename_i hj
                cases e4
                refine ⟨by omega, _, rfl, ?_, ?_⟩
                · rw [if_neg (by omega)]; exact g3.append (.cons rv .nil)
                · rw [if_neg (by omega), List.length_append]; show _ + 1 ≤ _; omega
              · cases e4
          obtain ⟨k1, ds', rfl, k2, k3⟩ := key
          have kpw := kp_write (u := .ins (T.cls c') dx ((T.flds c').zip (if j < xs.length then xs.set j v else xs ++ [v]))) h1 g1 trivial
          refine ⟨p, _, dx, _, rfl, g1, cl.cl, cl.no n (List.mem_of_getElem? hn), ?_, ?_⟩
          · rw [List.length_zip]; have := cl.few; omega
          · rw [putF_zip cl.nd hn k1]
            obtain ⟨w1, w2⟩ := P3.rel.write ho hp (o' := .ins c' ds') ⟨dx, _, upd_same, k3, k2.kp kpw⟩
            exact q _ _ ⟨w1, (P2.fra.trans rl P3.fra).trans rl w2⟩
        · cases e4
      | _ => cases e4
    · cases e
  · cases e
end
/-- what an instance's class has that is asked by a built-in: __len__ -/
structure LnC (T : Cls2) (C : Ctx) (P : Program) (w : World) (K : PySem.W.Frag) (mg : Str → Option Value) (base : Heap) (A : Around) (p : MI) : Prop where
  ex : (∀ is, C.fi p.fi.f is = none) ∨ ∃ a, Meth K (T.cls p.c) p.fi.nm a ∧ FnA T P w K mg base A a (C.fi p.fi.f) p.fi 1
section
variable {X : Cx} {T : Cls2} {C : Ctx} {pos p1 apos : Pos} {x y z : Expr} {a b : E}
theorem call_lenO {k : Nat} {f : Addr} {fd : FuncData} {ps : List Str} {sp : Sp} {g : List Value → List Value → List Value} {gV : List V → List V → List V} (F : FnG X.prog X.w X.K X.mg X.base CX0 k f fd ps sp) (hr : Room (k + 1) X.A) (hg : X.A.guards = some []) (kb : KBn X.K fd ps 1 [] g gV) :
    CallR X (.builtin "len") (fun xs H Q => ∃ p Cc dx fs, xs = [.ref p] ∧ H p = some (.ins Cc dx fs) ∧ Meth X.K Cc "__len__" f ∧ sp (gV [.ref p] []) H (fun v H' => ∃ n : Int, v = .int n ∧ 0 ≤ n ∧ n < 9223372036854775808 ∧ Q (.int n) H') E0) := by
  intro pins s σ H xs us Q I r h
  obtain ⟨p, Cc, dx, fs, rfl, h1, M, h2⟩ := h
  obtain ⟨u, rfl, rx⟩ := vals1 r
  cases rx
  obtain ⟨mA, O, _, _, _, _⟩ := ins_get I.hok h1
  obtain ⟨od, J, _⟩ := O.look
  obtain ⟨m, fr⟩ := I.fr
  refine PySem.W.len_K fr I.ok.mod.kin J M.at_ M.fn ?_
  have r1 : Vals [V.ref p] [Value.ref p] := .cons rfl .nil
  refine wpAny_call (codeAny_mono (F.run X.A.in1 X.stack s H ⟨[.ref p], []⟩ (g [.ref p] []) (gV [.ref p] []) _ _ hr.in1 hg I.env0.in1 (kb.to s [.ref p] [] I.kIn rfl rfl) (kb.rel r1 .nil) h2) fun r s' hq => ?_)
  cases r with
  | error e => exact pass0 pins σ _ _ e s' I hq
  | ok fl =>
    cases fl with
    | ret u =>
      obtain ⟨v, H', I3, rv, n, rfl, n0, n1, q⟩ := I.after hq
      obtain ⟨t, rfl⟩ := rv
      exact ⟨⟨n0, by have : (2 : Int) ^ 63 = 9223372036854775808 := by decide
                     omega⟩, ⟨.int n, H', I3.tok _, ⟨_, rfl⟩, q⟩⟩
    | next => exact False.elim hq
    | brk => exact False.elim hq
    | cont => exact False.elim hq
/-- len(o) -/
theorem se_lno {p : MI} {nm : Str} (F : LnC T C X.prog X.w X.K X.mg X.base X.A p) (hm : p.fi.nm = "__len__") (hn : p.fi.n = 1) (hks : p.fi.ks = []) (hsr : p.fi.src = [.arg 0]) (hnm : nm = "len") (hg : Gl X nm) (hmg : X.mg nm = none) (ha : SE T X x (ev C a)) (hp : plainE x = true) :
    SE T X (.Call (.Name nm p1) [x] [] pos) (ev C (.lno p.c p.fi.f a)) := by
  subst hnm
  rcases F.ex with hno | ⟨ad, M, ⟨fd, ps, k, g, gV, ok, hr, kb, sv⟩, nd⟩
  · refine ⟨fun pins s σ H Q I h => ?_⟩
    obtain ⟨av, Γ, r, Γ', rl, e, q⟩ := h
    exfalso
    rw [ev] at e
    obtain ⟨⟨ra, Γ1⟩, e1, e⟩ := Option.bind_eq_some_iff.mp e
    obtain ⟨⟨d, Γ2⟩, e2, e⟩ := Option.bind_eq_some_iff.mp e
    dsimp only at e
    split at e
    · obtain ⟨⟨r0, Γ3⟩, e3, e⟩ := Option.bind_eq_some_iff.mp e
      unfold callT at e3
      obtain ⟨rs', e5, e3⟩ := Option.bind_eq_some_iff.mp e3
      obtain ⟨⟨is, Γ4⟩, e6, e3⟩ := Option.bind_eq_some_iff.mp e3
      obtain ⟨⟨rt, os⟩, e7, e3⟩ := Option.bind_eq_some_iff.mp e3
      rw [hno] at e7
      cases e7
    · cases e
  · rw [hn, hks] at kb
    rw [hn, hks, hsr] at sv
    rw [hm] at M
    rw [hsr] at ok
    refine (pe_callB (call_lenO ok hr.1 hr.2 kb) hg hmg PySem.boot_len (pa_cons ha pa_nil (star_eq hp [] X.env)) (by decide +kernel) (by decide +kernel) (star_eq hp [] X.env) rfl).imp fun σ H Q ⟨av, Γ, r, Γ', rl, e, q⟩ => ?_
    rw [ev] at e
    obtain ⟨⟨ra, Γ1⟩, e1, e⟩ := Option.bind_eq_some_iff.mp e
    obtain ⟨⟨d, Γ2⟩, e2, e⟩ := Option.bind_eq_some_iff.mp e
    dsimp only at e
    split at e
    · rename_i hins
      obtain ⟨ds, rfl⟩ := isIns_of hins
      obtain ⟨⟨r0, Γ3⟩, e3, e⟩ := Option.bind_eq_some_iff.mp e
      obtain ⟨r', e4, e⟩ := Option.map_eq_some_iff.mp e
      cases e
      obtain ⟨n, rfl, rfl, n0, n1⟩ : ∃ n : Int, r0 = .val (.int n) ∧ r = .val (.int n) ∧ 0 ≤ n ∧ n < 9223372036854775808 := by
        cases r0 with
        | val d0 => cases d0 with
          | int n =>
            unfold lenI at e4
            simp only at e4
            split at e4
            · rename_i hc
              cases e4
              exact ⟨n, rfl, rfl, hc.1, hc.2⟩
            · cases e4
          | _ => cases e4
        | _ => cases e4
      refine ⟨av, Γ, ra, Γ1, rl, e1, fun v H1 av1 P1 => ?_⟩
      obtain ⟨av2, P2⟩ := frz_ok rl P1 e2
      obtain ⟨pa, dxa, fxs, rfl, h1, h2, h3⟩ := vins P2.vr
      refine ⟨pa, _, dxa, _, rfl, h1, M, ?_⟩
      unfold callT at e3
      obtain ⟨rs', e5, e3⟩ := Option.bind_eq_some_iff.mp e3
      obtain ⟨⟨is, Γ4⟩, e6, e3⟩ := Option.bind_eq_some_iff.mp e3
      obtain ⟨⟨rt, os⟩, e7, e3⟩ := Option.bind_eq_some_iff.mp e3
      have S := sv [.ref pa] [] rfl rfl
      have PA := PostA.cons rl P2 (.nil P2.rel)
      have PA' : PostA T X.K σ av Γ H Γ2 rs' (gV [.ref pa] []) H1 av2 := ⟨PA.rel, pick_reps PA.rep S e5, pick_apart (by rw [hsr] at nd; exact nd) PA.apt S e5, PA.fra⟩
      refine call_sp (E := E0) rl PA' S.length e6 e7 fun v H' av' P => ?_
      injection e3 with e3
      injection e3 with e31 e32
      rw [e31, e32] at P
      exact ⟨n, vint (Post.vr P), n0, n1, q _ _ _ (vint (Post.vr P) ▸ P)⟩
    · cases e
end
/-- a written dict of the top, with text keys: what it has -/
structure KdOk (T : Cls2) (K : PySem.W.Frag) (w : World) (d : Addr) (kvs : List (Str × D)) : Prop where
  ex : ∃ es n, KDict K w d es n
  get : ∀ x : Str, ∃ r : Option Value, PySem.W.nsIn K d x = some r ∧ ((r = none ∧ kfind kvs x = none) ∨ ∃ u v d', r = some u ∧ kfind kvs x = some d' ∧ RelV v u ∧ ∀ H av, Rep T K H av d' v)
section
variable {X : Cx} {T : Cls2} {C : Ctx} {pos p1 apos : Pos} {x y z : Expr} {a b : E}
theorem se_kget {g : Nat} {nm : Str} {d : Addr} (hg : Gl X nm) (hm : X.mg nm = some (.ref d)) (hdb : (nm == ("__debug__" : Str)) = false) (D : KdOk T X.K X.w d (C.kd g)) (ha : SE T X y (ev C a)) (hl : (apos.endLine == pos.line) = true) (hp : plainE y = true) :
    SE T X (.Call (.Attribute (.Name nm p1) "get" apos) [y] [] pos) (ev C (.kget g a)) := by
  obtain ⟨es, n, kd⟩ := D.ex
  refine ⟨fun pins s σ H Q I h => ?_⟩
  obtain ⟨av, Γ, r, Γ', rl, e, q⟩ := h
  rw [ev] at e
  obtain ⟨⟨ra, Γ1⟩, e1, e⟩ := Option.bind_eq_some_iff.mp e
  obtain ⟨z, rfl, er⟩ : ∃ z, ra = .val (.str z) ∧ some (R.val (kgetD (C.kd g) z), Γ1) = some (r, Γ') := by
    simp only at e
    split at e
    · exact ⟨_, rfl, e⟩
    · cases e
  cases er
  have hst : backTo pos (starEach [y] X.env) = [(false, eval y X.env)] := by
    rw [star_eq hp]
    rfl
  refine wpAny_Call_method rfl (fewK (env := X.env) (cpos := pos) (xs := [y]) (by simp [hp]) (by simp)) hl F.plainAttrs_dict F.slot_dict_get F.type_dict_get (ld_glob I hg hm ⟨kd_type kd I, fun b q => ?_, ?_⟩ hdb)
  · cases q
    exact ⟨_, I.kIn _ _ kd.at_, rfl⟩
  · rw [hst]
    refine Calls.callWith_builtin rfl (Calls.evalArgs_plain (Calls.spliced_cons (thn (ha.run pins s σ H _ I ⟨av, Γ, _, _, rl, e1, fun v H1 av1 P1 => (⟨av1, P1⟩ : ∃ av1, Post T X.K σ av Γ H _ (.val (.str z)) v H1 av1)⟩) fun iv s2 ⟨v, H2, I2, rv, av1, P1⟩ => Calls.spliced_nil ?_)))
    have hv := vstr P1.vr
    subst hv
    obtain ⟨t, rfl⟩ := rv
    obtain ⟨r0, hn, hr⟩ := D.get z
    refine call_meetsIn F.slot_dict_get (kd_type kd I2) F.entry_dict_get (F.args_dict_get_2 _ _) (meets_dict_get (strKind X.prog X.w) d (strKind_is X.prog X.w z t) kd.low) ⟨_, PySem.W.mapOf_K (prog := X.prog) I2.kIn kd.at_ kd.lit, ?_⟩
    rw [PySem.W.find_K kd.at_ hn]
    rcases hr with ⟨rfl, hk⟩ | ⟨u, v, d', rfl, hk, hu, hR⟩
    · rw [show kgetD (C.kd g) z = .non by unfold kgetD; rw [hk]; rfl] at q
      exact ⟨.non, H2, I2.tok _, rfl, q _ _ _ ⟨P1.rel, show Rep T X.K H2 av1 .non .non from rnon, P1.fra⟩⟩
    · rw [show kgetD (C.kd g) z = d' by unfold kgetD; rw [hk]; rfl] at q
      exact ⟨v, H2, I2.tok _, hu, q _ _ _ ⟨P1.rel, hR _ _, P1.fra⟩⟩
/-- D.get(y, a constant), D a written dict of the top -/
theorem se_kgd {g : Nat} {nm : Str} {d : Addr} {d0 : D} (hg : Gl X nm) (hm : X.mg nm = some (.ref d)) (hdb : (nm == ("__debug__" : Str)) = false) (D : KdOk T X.K X.w d (C.kd g)) (ha : SE T X y (ev C a)) (hz : SE T X z (ev C (.con d0))) (hl : (apos.endLine == pos.line) = true) (hp : plainE y = true) (hpz : plainE z = true) :
    SE T X (.Call (.Attribute (.Name nm p1) "get" apos) [y, z] [] pos) (ev C (.kgd g a d0)) := by
  obtain ⟨es, n, kd⟩ := D.ex
  refine ⟨fun pins s σ H Q I h => ?_⟩
  obtain ⟨av, Γ, r, Γ', rl, e, q⟩ := h
  rw [ev] at e
  obtain ⟨⟨ra, Γ1⟩, e1, e⟩ := Option.bind_eq_some_iff.mp e
  obtain ⟨x0, rfl, er⟩ : ∃ x0, ra = .val (.str x0) ∧ some (R.val ((kfind (C.kd g) x0).getD d0), Γ1) = some (r, Γ') := by
    simp only at e
    split at e
    · exact ⟨_, rfl, e⟩
    · cases e
  cases er
  have hst : backTo pos (starEach [y, z] X.env) = [(false, eval y X.env), (false, eval z X.env)] := by
    rw [star_eq hp, star_eq hpz]
    rfl
  refine wpAny_Call_method rfl (fewK (env := X.env) (cpos := pos) (xs := [y, z]) (by simp [hp, hpz]) (by simp)) hl F.plainAttrs_dict F.slot_dict_get F.type_dict_get (ld_glob I hg hm ⟨kd_type kd I, fun b q => ?_, ?_⟩ hdb)
  · cases q
    exact ⟨_, I.kIn _ _ kd.at_, rfl⟩
  · rw [hst]
    refine Calls.callWith_builtin rfl (Calls.evalArgs_plain (Calls.spliced_cons (thn (ha.run pins s σ H _ I ⟨av, Γ, _, _, rl, e1, fun v H1 av1 P1 => (⟨av1, P1⟩ : ∃ av1, Post T X.K σ av Γ H _ (.val (.str x0)) v H1 av1)⟩) fun iv s2 ⟨v, H2, I2, rv, av1, P1⟩ => Calls.spliced_cons (thn (hz.run pins s2 σ H2 _ I2 ⟨av1, Γ', .val d0, Γ', P1.rel, by rw [ev], fun v' H' av' P' => (⟨av', P'⟩ : ∃ av', Post T X.K σ av1 Γ' H2 Γ' (.val d0) v' H' av')⟩) fun fv s3 ⟨vz, H3, I3, rz, av3, P3⟩ => Calls.spliced_nil ?_))))
    have hv := vstr P1.vr
    subst hv
    obtain ⟨t, rfl⟩ := rv
    obtain ⟨r0, hn, hr⟩ := D.get x0
    refine call_meetsIn F.slot_dict_get (kd_type kd I3) F.entry_dict_get (F.args_dict_get_3 _ _ _) (meets_dict_get_default (strKind X.prog X.w) d (strKind_is X.prog X.w x0 t) kd.low fv) ⟨_, PySem.W.mapOf_K (prog := X.prog) I3.kIn kd.at_ kd.lit, ?_⟩
    rw [PySem.W.find_K kd.at_ hn]
    rcases hr with ⟨rfl, hk⟩ | ⟨u, v, d', rfl, hk, hu, hR⟩
    · rw [hk] at q
      exact ⟨vz, H3, I3.tok _, rz, q _ _ _ ⟨P3.rel, P3.rep, P1.fra.trans rl P3.fra⟩⟩
    · rw [hk] at q
      exact ⟨v, H3, I3.tok _, hu, q _ _ _ ⟨P3.rel, hR _ _, P1.fra.trans rl P3.fra⟩⟩
/-- y in D, y not in D, D a written dict of the top -/
def kinOp (n : Bool) : CmpOp := if n then .NotIn else .In
theorem op_kin {n : Bool} {d : Addr} {es : Array DictEntry} {m : Nat} (D : KDict X.K X.w d es m) : OpR X (compareOp (kinOp n)) (fun x y H Q => ∃ (z : Str) (r : Option Value), x = .str z ∧ y = .ref d ∧ PySem.W.nsIn X.K d z = some r ∧ Q (.bl (n != r.isSome)) H) := by
  cases n with
  | true =>
    intro pins s σ H x y v u Q I rx ry ⟨z, r, h1, h2, h3, q⟩
    refine op_notIn_kd D pins s σ H x y v u Q I rx ry ⟨z, r, h1, h2, h3, ?_⟩
    have e : (true != r.isSome) = !r.isSome := by cases r.isSome <;> rfl
    rw [← e]
    exact q
  | false =>
    intro pins s σ H x y v u Q I rx ry ⟨z, r, h1, h2, h3, q⟩
    refine op_in_kd D pins s σ H x y v u Q I rx ry ⟨z, r, h1, h2, h3, ?_⟩
    have e : (false != r.isSome) = r.isSome := by cases r.isSome <;> rfl
    rw [← e]
    exact q
theorem kd_some {K : PySem.W.Frag} {w : World} {d : Addr} {kvs : List (Str × D)} (D : KdOk T K w d kvs) (x : Str) : ∃ r : Option Value, PySem.W.nsIn K d x = some r ∧ r.isSome = (kfind kvs x).isSome := by
  obtain ⟨r, h, hr⟩ := D.get x
  refine ⟨r, h, ?_⟩
  rcases hr with ⟨rfl, hk⟩ | ⟨u, v, d', rfl, hk, _⟩
  · rw [hk]; rfl
  · rw [hk]; rfl
theorem se_kin {g : Nat} {ng : Bool} {nm : Str} {d : Addr} (hg : Gl X nm) (hm : X.mg nm = some (.ref d)) (hdb : (nm == ("__debug__" : Str)) = false) (D : KdOk T X.K X.w d (C.kd g)) (ha : SE T X y (ev C a)) :
    SE T X (.Compare y [kinOp ng] [.Name nm p1] pos) (ev C (.kin g ng a)) := by
  obtain ⟨es, n, kd⟩ := D.ex
  refine (pe_cmpR (op_kin (n := ng) kd) ha (pe_glob hg hm (v := .ref d) rfl hdb) (noMark rfl _)).imp fun σ H Q ⟨av, Γ, r, Γ', rl, e, q⟩ => ?_
  rw [ev] at e
  obtain ⟨⟨ra, Γ1⟩, e1, e⟩ := Option.bind_eq_some_iff.mp e
  obtain ⟨x0, rfl, er⟩ : ∃ x0, ra = .val (.str x0) ∧ some (R.val (.bl (ng != (kfind (C.kd g) x0).isSome)), Γ1) = some (r, Γ') := by
    simp only at e
    split at e
    · exact ⟨_, rfl, e⟩
    · cases e
  cases er
  obtain ⟨r0, hn, hr⟩ := kd_some D x0
  refine ⟨av, Γ, _, _, rl, e1, fun va H1 av1 P1 => ⟨x0, r0, vstr P1.vr, rfl, hn, ?_⟩⟩
  rw [hr]
  exact q _ _ _ (P1.rel.post0 P1.fra rbl)
theorem st_kin {g : Nat} {ng : Bool} {nm : Str} {d : Addr} (hg : Gl X nm) (hm : X.mg nm = some (.ref d)) (hdb : (nm == ("__debug__" : Str)) = false) (D : KdOk T X.K X.w d (C.kd g)) (ha : SE T X y (ev C a)) :
    PT X (.Compare y [kinOp ng] [.Name nm p1] pos) (tT T X.K (evT C (.kin g ng a))) := by
  obtain ⟨es, n, kd⟩ := D.ex
  refine (pt_cmpR (op_kin (n := ng) kd) ha (pe_glob hg hm (v := .ref d) rfl hdb) (noMark rfl _)).imp fun σ H Q ⟨av, Γ, r, Γ', rl, e, q⟩ => ?_
  rw [evT] at e
  obtain ⟨⟨ra, Γ1⟩, e1, e⟩ := Option.bind_eq_some_iff.mp e
  obtain ⟨x0, rfl, er⟩ : ∃ x0, ra = .val (.str x0) ∧ some (ng != (kfind (C.kd g) x0).isSome, Γ1) = some (r, Γ') := by
    simp only at e
    split at e
    · exact ⟨_, rfl, e⟩
    · cases e
  cases er
  obtain ⟨r0, hn, hr⟩ := kd_some D x0
  refine ⟨av, Γ, _, _, rl, e1, fun va H1 av1 P1 => ⟨x0, r0, vstr P1.vr, rfl, hn, _, rfl, ?_⟩⟩
  rw [hr]
  exact q _ _ ⟨P1.rel, P1.fra⟩
/-- x.get(y, a constant), x a dict -/
theorem dget_rep {T : Cls2} {K : PySem.W.Frag} {H : Hp} {av : Av} {k : Key} {d0 : D} {vz : V} (hz : Rep T K H av d0 vz) : ∀ {ks : List Key} {ds : List D} {xs : List V}, ks.length = xs.length → Reps T K H av ds xs → Rep T K H av ((((ks.zip ds).find? fun kv => decide (kv.1 = k)).map (·.2)).getD d0) ((valV (ks.zip xs) k).getD vz)
  | [], _, _, _, _ => hz
  | q :: ks, [], [], _, _ => hz
  | q :: ks, d :: ds, [], hl, _ => by cases hl
  | q :: ks, [], x :: xs, _, hr => by have := hr.nil_inv; cases this
  | q :: ks, d :: ds, x :: xs, hl, hr => by
    obtain ⟨r1, r2⟩ := Reps.cons_iff.mp hr
    have ih := dget_rep (k := k) hz (ks := ks) (ds := ds) (xs := xs) (by simpa using hl) r2
    unfold valV at ih ⊢
    rw [List.zip_cons_cons, List.zip_cons_cons, List.find?_cons, List.find?_cons]
    by_cases e : q = k
    · simp only [e, decide_true]
      exact r1
    · simp only [e, decide_false]
      exact ih
theorem se_dget {d0 : D} {c : E} (hu : X.A.units + 64 < cLine) (ha : SE T X x (ev C a)) (hb : SE T X y (ev C c)) (hz : SE T X z (ev C (.con d0))) (hB : baseE x = true) (hl : (apos.endLine == pos.line) = true) (hp : plainE y = true) (hpz : plainE z = true) :
    SE T X (.Call (.Attribute x "get" apos) [y, z] [] pos) (ev C (.dget a c d0)) := by
  refine (pe_dget2 (by omega) ha hb hz ⟨base_eq hB _ _, fewK (xs := [y, z]) (by simp [hp, hpz]) (by simp), hl, by rw [star_eq hp, star_eq hpz]; rfl⟩).imp fun σ H Q ⟨av, Γ, r, Γ', rl, e, q⟩ => ?_
  rw [ev] at e
  obtain ⟨⟨ra, Γ1⟩, e1, e⟩ := Option.bind_eq_some_iff.mp e
  dsimp only at e
  split at e
  · rename_i hk
    obtain ⟨⟨rk, Γ2⟩, e2, e⟩ := Option.bind_eq_some_iff.mp e
    obtain ⟨dx, e3, e⟩ := Option.bind_eq_some_iff.mp e
    obtain ⟨dy, e4, e⟩ := Option.bind_eq_some_iff.mp e
    obtain ⟨z0, e5, e⟩ := Option.map_eq_some_iff.mp e
    cases e
    obtain ⟨ks0, ds0, hk⟩ : ∃ ks0 ds0, look Γ1 ra = some (.dic ks0 ds0) := by
      unfold isDicO at hk
      split at hk
      · exact ⟨_, _, by assumption⟩
      · cases hk
    refine ⟨av, Γ, ra, Γ1, rl, e1, fun va H1 av1 P1 => ?_⟩
    obtain ⟨p, xs, rfl, h1, h2, h3⟩ := look_ok P1.rel P1.rep hk
    refine ⟨p, rfl, .inl ⟨_, .inl h1⟩, av1, Γ1, rk, Γ2, P1.rel, e2, fun vb H2 av2 P2 => ⟨av2, Γ2, .val d0, Γ2, P2.rel, by rw [ev], fun vz H3 av3 P3 => ?_⟩⟩
    have vx := look_ok P3.rel ((P1.rep.fra P1.rel P2.fra).fra P2.rel P3.fra) e3
    have vy := look_ok P3.rel (P2.rep.fra P2.rel P3.fra) e4
    unfold dgetD at e5
    split at e5
    · obtain ⟨k, e6, e7⟩ := Option.map_eq_some_iff.mp e5
      obtain ⟨p', xs', ep, g1, g2, g3⟩ := vx
      cases ep
      have hy : vb = kV k := by
        unfold keyD at e6
        split at e6
        · cases e6; exact vint vy
        · cases e6; exact vstr vy
        · cases e6
      refine ⟨_, .inl ⟨_, k, .inl g1, hy, rfl⟩, q _ _ _ (P3.rel.post0 ((P1.fra.trans rl P2.fra).trans rl P3.fra) ?_)⟩
      rw [← e7]
      exact dget_rep P3.rep g2 g3
    · cases e5
  · cases e
end
end Mi

namespace Mi
open PySem PySem.Spec L2 RT
open PyProof.Rows hiding St
section
variable {prog : Program} {w : World} {A : Around} {E : Value → Shared → Prop} {s : Shared}
theorem slot_rt_hint : Slot "reversed" "__length_hint__" "reversed.__length_hint__" :=
  .of (owner := "reversed") (n := "__length_hint__") (by rw [typeLookup_type, builtinLookup_eq_fast]; kernel_rfl) (by decide +kernel) (by decide +kernel) (by decide +kernel)
    (by first | exact .inl (by decide +kernel) | exact .inr (by decide +kernel)) (by rw [isSubtype_type]; kernel_rfl)
theorem entry_rt_hint : entryFor table "reversed.__length_hint__" = some Builtin.«reversed.__length_hint__» := entryFor_of_tree (by kernel_rfl)
theorem args_rt_hint (a : Value) : argsOk "reversed.__length_hint__" ⟨[a], []⟩ := by
  unfold argsOk; rw [signature?_of (id := "reversed.__length_hint__") (n := ['_', '_', 't', 'n', 'i', 'h', '_', 'h', 't', 'g', 'n', 'e', 'l', '_', '_']) (o := ['d', 'e', 's', 'r', 'e', 'v', 'e', 'r']) (by kernel_rfl) owner_rt]; kernel_rfl
theorem nolen_rt : typeLookup (.type "reversed") "__len__" = pure none := by rw [typeLookup_type, builtinLookup_eq_fast]; kernel_rfl
theorem hint_rt : typeLookup (.type "reversed") "__length_hint__" = pure (some (.builtin "reversed.__length_hint__")) := by rw [typeLookup_type, builtinLookup_eq_fast]; kernel_rfl
/-- the turns of reversed(a tuple) -/
theorem walks_rt (hh : A.handled = none) (I t : Addr) (hne : t ≠ I) (items : Array Value) (hn : items.size ≤ sizeLine) :
    WalksS prog w A I [I, t] [I] (fun a b => a = b) items.size (fun i v => items[items.size - 1 - i]? = some v) (fun i s => i ≤ items.size ∧ IsRt s.heap I t ((items.size : Int) - 1 - (i : Nat)) ∧ IsTup s.heap t items) where
  sub := fun b hb => by simp at hb; simp [hb]
  grefl := fun _ => rfl
  gtrans := fun _ _ _ h g => h.trans g
  frame := fun i s h' tk x _ hk => ⟨x.1, x.2.1.at fun o e => hk I (by simp) o e, let ⟨o, e, r⟩ := x.2.2; ⟨o, hk t (by simp) o e, r⟩⟩
  item := fun i s Q E hi x hQ => by
    have e : (items.size : Int) - 1 - ((i : Nat) : Int) = ((items.size - 1 - i : Nat) : Int) := by omega
    have hit := x.2.1
    rw [e] at hit
    have hx : items[items.size - 1 - i]? = some (items[items.size - 1 - i]'(by omega)) := Array.getElem?_eq_getElem (by omega)
    refine next_rt_item hit x.2.2 hx hn fun h' hit' hs' => ?_
    have e2 : ((items.size - 1 - i : Nat) : Int) - 1 = (items.size : Int) - 1 - ((i + 1 : Nat) : Int) := by omega
    rw [e2] at hit'
    refine hQ _ _ hx ⟨hi, hit', ?_⟩ ⟨fun b o hb eo => (hs'.2 b (fun h => hb (by simp [h]))).trans eo, rfl, rfl, rfl, Nat.le_succ _⟩
    obtain ⟨o, eo, r⟩ := x.2.2
    exact ⟨o, (hs'.2 t hne).trans eo, r⟩
  done := fun s Q E x hQ => by
    have e : (items.size : Int) - 1 - (items.size : Int) = -1 := by omega
    have hit := x.2.1
    rw [e] at hit
    exact next_rt_end hh hit fun h' he' => hQ _ ⟨fun b o hb eo => he' b o (fun h => hb (by simp [h])) eo, rfl, rfl, rfl, Nat.le_refl _⟩
  self := fun _ _ _ _ x hQ => iter_rt x.2.1 hQ
theorem z_line : (([] : List Value).toArray).size ≤ sizeLine := by rw [sizeLine_eq]; decide
theorem z_line1 : ((fun x : Array Value => x.push Value.none) (([] : List Value).toArray)).size ≤ sizeLine + 1 := by rw [sizeLine_eq]; decide
theorem one_line : ((fun x : Array Value => x.push Value.none) (([] : List Value).toArray)).size ≤ sizeLine := by rw [sizeLine_eq]; decide
theorem no_line : ((fun x : Array Value => x.pop) ((fun x : Array Value => x.push Value.none) (([] : List Value).toArray))).size ≤ sizeLine + 1 := by rw [sizeLine_eq]; decide
theorem collect_rt {it l : Addr} {items : Array Value} {Q : List Value → Shared → Prop} (hh : A.handled = none) (hit : IsRt s.heap it l ((items.size : Int) - 1)) (hl : IsTup s.heap l items) (hne : l ≠ it) (hn : items.size ≤ sizeLine)
    (hQ : ∀ (h' : Heap) (tk : Nat) (acc : Array Value), (∀ b o, b ≠ it → s.heap.get? b = some o → h'.get? b = some o) → ItemsOf (fun i v => items[items.size - 1 - i]? = some v) acc items.size → Q acc.toList { s with heap := h', toks := tk }) :
    wpAny (model prog w) A (collect (.ref it)) Q E s := by
  have W := walks_rt (prog := prog) (w := w) (A := A.in1) hh it l hne items hn
  obtain ⟨oi, hoi, _⟩ := id hit
  obtain ⟨ol, hol, _⟩ := id hl
  have hSi : s.heap.objs.size ≠ it := Nat.ne_of_gt (Heap.lt_size hoi)
  have hSl : s.heap.objs.size ≠ l := Nat.ne_of_gt (Heap.lt_size hol)
  have hSf : s.heap.objs.size ∉ [it, l] := by simp only [List.mem_cons, List.not_mem_nil, or_false, not_or]; exact ⟨hSi, hSl⟩
  unfold collect
  refine wpAny_bind (wpAny_runValue (codeAny_builtin F.entry_proto_collect ?_))
  rw [Around.under_plainId F.plain_proto_collect _]
  show wpAny _ A.in1 (newList [] >>= fun l' => again (.builtin "list.__iadd__" ⟨[l', .ref it], []⟩)) _ _ s
  refine wpAny_bind (wpAny_newObj_type ?_)
  refine wpAny_pure ⟨plainId_quiet F.plain_list_iadd _, codeAny_builtin F.entry_list_iadd ?_⟩
  rw [Around.under_plainId F.plain_list_iadd _]
  have hS₁ : (s.heap.push { cls := .type "list", data := .seq ([] : List Value).toArray }).get? s.heap.objs.size = some { cls := .type "list", data := .seq ([] : List Value).toArray } := Heap.get?_push_size _ rfl
  have hit1 : IsRt (s.heap.push { cls := .type "list", data := .seq ([] : List Value).toArray }) it l ((items.size : Int) - 1) := hit.at fun o e => Heap.get?_push_of_some _ e
  have hl1 : IsTup (s.heap.push { cls := .type "list", data := .seq ([] : List Value).toArray }) l items := let ⟨o, e, r⟩ := hl; ⟨o, Heap.get?_push_of_some _ e, r⟩
  have hT : ({ s with heap := s.heap.push { cls := .type "list", data := .seq ([] : List Value).toArray } } : Shared).TypeIs (.ref it) "reversed" := IsRt.typeIs (s := { s with heap := s.heap.push { cls := .type "list", data := .seq ([] : List Value).toArray } }) hit1
  have h1 : Builtin.List.listSameRef (.ref s.heap.objs.size) (.ref it) = false := by simp [Builtin.List.listSameRef, hSi]
  show wpAny _ A.in1 (Builtin.List.listExtendWith (.ref s.heap.objs.size) (.ref it) (.ref s.heap.objs.size)) _ _ _
  unfold Builtin.List.listExtendWith
  refine wpAny_bind (wpAny_typeOf hT ?_)
  rw [if_neg (by rw [h1]; decide)]
  refine wpAny_bind (iter_rt (s := { s with heap := s.heap.push { cls := .type "list", data := .seq ([] : List Value).toArray } }) hit1 ?_)
  refine wpAny_bind (wpAny_holding ?_)
  unfold Builtin.List.listLengthHint
  refine wpAny_bind (wpAny_specialOf hT nolen_rt ?_)
  show wpAny _ A.in1 (specialOf (Value.ref it) (Str.ofString "__length_hint__") >>= _) _ _ _
  refine wpAny_bind (wpAny_specialOf hT hint_rt ?_)
  generalize hid : ("reversed.__length_hint__" : String) = id0
  wp_delta
  rw [show splitId id0 = some ("reversed", "__length_hint__") from by subst hid; decide +kernel]
  subst hid
  refine wpAny_bind (wpAny_isInstance (b := true) hT (by rw [isSubtype_type]; kernel_rfl) ?_)
  rw [if_neg (by decide)]
  try dsimp only
  rw [if_neg (by decide +kernel)]
  refine wpAny_bind (wpAny_rule ?_)
  refine wpAny_bind (wpAny_of_eq (a := (Value.builtin "reversed.__length_hint__", [Value.ref it])) (by
    unfold bindSpecial
    rw [show typeOf (.builtin "reversed.__length_hint__") = pure (.type "method_descriptor") from by show builtinType _ = _; rw [builtinType_eq_fast]; kernel_rfl]
    rfl) ?_)
  try dsimp only
  refine wpAny_bind (wpAny_attempt (wpAny_call_entry slot_rt_hint hT entry_rt_hint ?_ (args_rt_hint _)))
  unfold Builtin.«reversed.__length_hint__»
  refine wpAny_bind (wpAny_of_eq (a := Value.ref it) rfl ?_)
  try dsimp only
  obtain ⟨o1, ho1, hc1, hd1⟩ := id hit1
  refine wpAny_bind (wpAny_field ho1 hd1 (x := .ref l) rfl ?_)
  rw [show (Value.ref l == Value.none) = false from rfl, if_neg Bool.false_ne_true]
  refine wpAny_bind (PyProof.Rows.len_tuple (s := { s with heap := s.heap.push { cls := .type "list", data := .seq ([] : List Value).toArray } }) hl1 (by rw [sizeLine_eq] at hn; omega) ?_)
  refine wpAny_bind (wpAny_of_eq (a := some ((items.size : Nat) : Int)) rfl ?_)
  try dsimp only
  refine wpAny_bind (wpAny_field ho1 hd1 (x := rawInt ((items.size : Int) - 1)) rfl ?_)
  show wpAny _ _ (if ((items.size : Nat) : Int) < ((items.size : Int) - 1) + 1 then _ else _) _ _ _
  rw [if_neg (by omega)]
  refine wpAny_bind (wpAny_mkInt ?_)
  refine wpAny_pure ⟨_, rfl, ?_⟩
  try dsimp only
  refine wpAny_bind (wpAny_of_eq (a := some (((items.size : Int) - 1) + 1)) rfl ?_)
  try dsimp only
  rw [show ((items.size : Int) - 1 + 1) = (items.size : Int) by omega]
  have hn' := hn
  rw [sizeLine_eq] at hn'
  have f1 : Builtin.List.listFitsIndex ((items.size : Nat) : Int) = true := by
    unfold Builtin.List.listFitsIndex
    rw [decide_eq_true (by omega), decide_eq_true (by omega)]
    rfl
  have f2 : Builtin.List.listTooLong ((items.size : Nat) : Int).toNat = false := by
    unfold Builtin.List.listTooLong
    exact decide_eq_false (by rw [Int.toNat_natCast]; omega)
  rw [if_neg (by rw [f1]; decide), if_neg (by omega), if_neg (by rw [f2]; exact Bool.false_ne_true)]
  refine wpAny_pure ?_
  have e0 : ((items.size : Nat) : Int) - 1 - ((0 : Nat) : Int) = (items.size : Int) - 1 := by omega
  split
  · refine wpAny_bind (wpAny_rule ?_)
    refine wpAny_bind ?_
    show wpAny _ A.in1 (updateSeq s.heap.objs.size (·.push .none) >>= fun _ => updateSeq s.heap.objs.size (·.pop)) _ _ _
    refine wpAny_bind (wpAny_updateSeq (hz := z_line) (_hz' := z_line1) hS₁ rfl ?_)
    have hS3 := Heap.get?_update_self (Obj.mapSeq (·.push Value.none)) hS₁ rfl
    refine wpAny_updateSeq (hz := one_line) (_hz' := no_line) hS3 rfl ?_
    have hS4 := Heap.get?_update_self (Obj.mapSeq (·.pop)) hS3 rfl
    have up : ∀ b o, b ≠ s.heap.objs.size → (s.heap.push { cls := .type "list", data := .seq ([] : List Value).toArray }).get? b = some o → (((s.heap.push { cls := .type "list", data := .seq ([] : List Value).toArray }).update s.heap.objs.size (Obj.mapSeq (·.push Value.none))).update s.heap.objs.size (Obj.mapSeq (·.pop))).get? b = some o := fun b o hb e =>
      (Heap.get?_update_other _ _ (Ne.symm hb)).trans ((Heap.get?_update_other _ _ (Ne.symm hb)).trans e)
    refine wpAny_pure ⟨plainId_quiet F.plain_extend_loop _, codeAny_extend_loopS W hn _ hSf _ items.size 0 _ _ _ rfl (Nat.zero_le _) ⟨Nat.zero_le _, by rw [e0]; exact hit1.at fun o e => up it o (Ne.symm hSi) e, let ⟨o, e, r⟩ := hl1; ⟨o, up l o (Ne.symm hSl) e, r⟩⟩ hS4 (ItemsOf.nil _) fun s' acc' c' hm hS' hacc => ?_⟩
    show wpAny _ A (load s.heap.objs.size >>= _) _ _ s'
    refine wpAny_bind (wpAny_load hS' ?_)
    refine wpAny_pure ?_
    have hg : s'.gens = s.gens := hm.gens.symm
    obtain ⟨sh, sg, sd, st, so⟩ := s'
    have e1 := hm.drawn
    have e2 := hm.os
    simp only at e1 e2 hg
    subst e1 e2 hg
    refine hQ sh st acc' (fun b o hb e => hm.heap b o (fun hmem => ?_) (up b o (Nat.ne_of_lt (Heap.lt_size e)) (Heap.get?_push_of_some _ e))) hacc
    rcases List.mem_cons.mp hmem with e' | hmem
    · exact absurd (Heap.lt_size e) (by rw [e']; exact Nat.lt_irrefl _)
    · exact hb (List.mem_singleton.mp hmem)
  · refine wpAny_pure ⟨plainId_quiet F.plain_extend_loop _, codeAny_extend_loopS W hn _ hSf _ items.size 0 _ _ _ rfl (Nat.zero_le _) ⟨Nat.zero_le _, by rw [e0]; exact hit1, hl1⟩ hS₁ (ItemsOf.nil _) fun s' acc' c' hm hS' hacc => ?_⟩
    show wpAny _ A (load s.heap.objs.size >>= _) _ _ s'
    refine wpAny_bind (wpAny_load hS' ?_)
    refine wpAny_pure ?_
    have hg : s'.gens = s.gens := hm.gens.symm
    obtain ⟨sh, sg, sd, st, so⟩ := s'
    have e1 := hm.drawn
    have e2 := hm.os
    simp only at e1 e2 hg
    subst e1 e2 hg
    refine hQ sh st acc' (fun b o hb e => hm.heap b o (fun hmem => ?_) (Heap.get?_push_of_some _ e)) hacc
    rcases List.mem_cons.mp hmem with e' | hmem
    · exact absurd (Heap.lt_size e) (by rw [e']; exact Nat.lt_irrefl _)
    · exact hb (List.mem_singleton.mp hmem)
theorem code_tuple_new_rt {it l : Addr} {items : Array Value} {Q₁ : Value → Shared → Prop} (hh : A.handled = none) (hit : IsRt s.heap it l ((items.size : Int) - 1)) (hl : IsTup s.heap l items) (hne : l ≠ it) (hn : items.size ≤ sizeLine)
    (h : ∀ (h' : Heap) (tk : Nat) (acc : Array Value), (∀ b o, b ≠ it → s.heap.get? b = some o → h'.get? b = some o) → ItemsOf (fun i v => items[items.size - 1 - i]? = some v) acc items.size →
      Q₁ (.ref h'.objs.size) { s with heap := h'.push { cls := .type "tuple", data := .seq acc }, toks := tk }) :
    codeAny (model prog w) A (.call (.builtin "tuple.__new__") ⟨[.type "tuple", .ref it], []⟩) (wants Q₁ E) s := by
  refine codeAny_of_tree ?_
  show wpAny _ A.in1 (do checkBuiltinCall "tuple.__new__" ⟨[.type "tuple", .ref it], []⟩; again (.builtin "tuple.__new__" ⟨[.type "tuple", .ref it], []⟩)) _ _ s
  refine wpAny_bind (wpAny_of_eq (F.newCall_tuple_1 _) (wpAny_pure ⟨plainId_quiet F.plain_tuple_new _, codeAny_builtin F.entry_tuple_new ?_⟩))
  rw [Around.under_plainId F.plain_tuple_new _]
  have hsub := sub_tuple_self
  have hinit := init_tuple_lookup
  have hmh := madeHere_tuple
  have hTI : s.TypeIs (.ref it) "reversed" := hit.typeIs
  have hh1 : A.in1.handled = none := hh
  wp_walk using wpAny_typeOf hTI, collect_rt (A := A.in1) hh1 hit hl hne hn
  intro h' tk acc hk hacc
  show wpAny _ _ (Builtin.Tuple.tupleExact acc.toList.toArray >>= fun v => ret v) _ _ _
  unfold Builtin.Tuple.tupleExact
  refine wpAny_bind (wpAny_newObj_type ?_ (by show acc.toList.toArray.size ≤ sizeLine; simp only [Array.toArray_toList]; rw [hacc.1]; exact hn))
  refine wpAny_pure ?_
  have e : acc.toList.toArray = acc := by simp
  rw [e]
  exact h h' tk acc hk hacc
theorem call_tuple_rt {it l : Addr} {items : Array Value} {Q : Value → Shared → Prop} (hh : A.handled = none) (hit : IsRt s.heap it l ((items.size : Int) - 1)) (hl : IsTup s.heap l items) (hne : l ≠ it) (hn : items.size ≤ sizeLine)
    (hQ : ∀ (h' : Heap) (tk : Nat) (acc : Array Value), (∀ b o, b ≠ it → s.heap.get? b = some o → h'.get? b = some o) → ItemsOf (fun i v => items[items.size - 1 - i]? = some v) acc items.size →
      Q (.ref h'.objs.size) { s with heap := h'.push { cls := .type "tuple", data := .seq acc }, toks := tk }) :
    wpAny (model prog w) A (call (.type "tuple") [.ref it]) Q E s := by
  refine callType_codes (Q₁ := fun obj s₁ => s₁.TypeIs obj "tuple" ∧ Q obj s₁) F.called_tuple (F.typeCall_tuple_1 _) F.entry_object_init
    (code_tuple_new_rt (A := A.in1) hh hit hl hne hn fun h' tk acc hk hacc => ⟨⟨_, Heap.get?_push_size _ rfl, rfl⟩, hQ h' tk acc hk hacc⟩) fun obj s₁ h₁ => ?_
  exact ⟨h₁.1, F.args_object_init_2 obj _, object_init_meets F.called_tuple.init.lookup F.called_tuple.made (by decide) prog w A.in1 _ s₁ ⟨h₁.1, rfl, h₁.2⟩⟩
end
/-- tuple(reversed(x)), x a tuple -/
def tTupRevT (K : PySem.W.Frag) (te : TE) : TE := fun σ H Q => te σ H fun v H1 => ∃ (a : Addr) (xs : List V), v = .ref a ∧ SqT K H1 a xs ∧ ∀ q (ob : Obj), ob.dict = none → H1 q = none → Q (.ref q) (upd H1 q (.frz ob (.tup xs.reverse)))
section
variable {X : Cx}
theorem pe_tupRevT {e : Expr} {te : TE} {p p2 pos pos2 : Pos} (hc : X.calm = true) (hg : Gl X "tuple") (hm : X.mg "tuple" = none) (hg2 : Gl X "reversed") (hm2 : X.mg "reversed" = none) (he : PE X e te)
    (hs : starEach [e] X.env = (false, eval e X.env) :: starEach [] X.env := by rfl)
    (hs2 : starEach [.Call (.Name "reversed" p2) [e] [] pos2] X.env = (false, eval (.Call (.Name "reversed" p2) [e] [] pos2) X.env) :: starEach [] X.env := by rfl) :
    PE X (.Call (.Name "tuple" p) [.Call (.Name "reversed" p2) [e] [] pos2] [] pos) (tTupRevT X.K te) := by
  refine ⟨fun pins s σ H Q I h => ?_⟩
  refine Call_ (ld_blt I hg hm boot_tuple (PyProof.Rows.callWith_type1 (args_cons (Call_ (ld_blt I hg2 hm2 PyProof.Rows.boot_reversed (PyProof.Rows.callWith_type1 (args_cons (thn (he.run pins s σ H _ I h) fun u s1 ⟨v, H1, I1, r1, q1⟩ => args_nil ?_) hs) hs rfl))) hs2) hs2 rfl))
  obtain ⟨a, xs, ev, hq, q⟩ := q1
  subst ev
  obtain rfl : u = Value.ref a := r1
  obtain ⟨its, rv, p', hz⟩ := I1.tuple hq
  have hline := sizeLine_eq
  have hn : its.toArray.size ≤ sizeLine := by rw [List.size_toArray, ← rv.length]; exact hz
  refine call_reversed_tup p' (fun A E Q k => PyProof.Rows.len_tuple p' (by simp only [List.size_toArray] at hn ⊢; omega) k) (args_nil ?_)
  have k0 : ∀ b o, s1.heap.get? b = some o → (s1.heap.push (rtObj a ((its.toArray.size : Int) - 1))).get? b = some o := fun b o e => Heap.get?_push_of_some _ e
  have I2 : Inv X pins σ H1 { s1 with heap := s1.heap.push (rtObj a ((its.toArray.size : Int) - 1)), toks := s1.toks + 1 + 1 } := I1.kept (t' := s1.toks + 1 + 1) k0
  obtain ⟨f0, f1, f2, f3, f4, f5⟩ := I1.fpOk (H' := H1) (b := s1.heap.objs.size) (Nat.le_refl _) (I1.hok.fresh (Nat.le_refl _))
  obtain ⟨ol, hol, rest⟩ := id p'
  have hne : a ≠ s1.heap.objs.size := Nat.ne_of_lt (Heap.lt_size hol)
  refine call_tuple_rt (s := { s1 with heap := s1.heap.push (rtObj a ((its.toArray.size : Int) - 1)), toks := s1.toks + 1 + 1 }) (I1.ok.hd hc) ⟨_, Heap.get?_push_size _ rfl, rfl, rfl⟩ ⟨ol, Heap.get?_push_of_some _ hol, rest⟩ hne hn fun h' tk acc hk hi => ?_
  have I3 : Inv X pins σ H1 { s1 with heap := h', toks := tk } := I2.turned (t' := tk) (fun b o hb e => hk b o hb e) f0 f1 f3 f4 f5
  refine ⟨.ref h'.objs.size, upd H1 h'.objs.size (.frz _ (.tup xs.reverse)), I3.laid (t' := tk) (o := .frz _ (.tup xs.reverse)) (fun c o e => Heap.get?_push_of_some _ e) (Nat.le_refl _) ⟨Heap.get?_push_size _ rfl, by rw [List.length_reverse]; exact hz, acc.toList, vals_rev rv hi, ?_⟩, rfl, q _ _ rfl (I3.hok.fresh (Nat.le_refl _))⟩
  rw [Array.toArray_toList]
  exact IsTup.new _ _
variable {T : Cls2} {C : Ctx} {pos p1 p2 pos2 : Pos} {x : Expr} {a : E}
theorem se_trev {n1 n2 : Str} (hc : X.calm = true) (h1 : n1 = "tuple") (h2 : n2 = "reversed") (hg : Gl X n1) (hm : X.mg n1 = none) (hg2 : Gl X n2) (hm2 : X.mg n2 = none) (ha : SE T X x (ev C a)) (hp : plainE x = true) :
    SE T X (.Call (.Name n1 p1) [.Call (.Name n2 p2) [x] [] pos2] [] pos) (ev C (.trev a)) := by
  subst h1 h2
  refine (pe_tupRevT hc hg hm hg2 hm2 ha (star_eq hp [] X.env) (star_eq rfl [] X.env)).imp fun σ H Q ⟨av, Γ, r, Γ', rl, e, q⟩ => ?_
  rw [ev] at e
  obtain ⟨⟨ra, Γ1⟩, e1, e⟩ := Option.bind_eq_some_iff.mp e
  obtain ⟨dx, e3, e⟩ := Option.bind_eq_some_iff.mp e
  cases dx with
  | tup xs =>
    cases e
    refine ⟨av, Γ, ra, _, rl, e1, fun va H1 av1 P1 => ?_⟩
    obtain ⟨p, us, rfl, g1, g2⟩ := vtup (look_ok P1.rel P1.rep e3)
    exact ⟨p, us, rfl, g1.t, fun q0 ob hob hq => q _ _ _ ((Res.tup hob hq (reps_rev g2)).post rl P1.rel P1.fra)⟩
  | _ => cases e
end
end Mi

namespace Mi
open PySem PySem.Spec L2
open PyProof.Rows hiding St

/-! ## sum(xs, start=c) -/
theorem args_sumS (a v : Value) : argsOk "sum" ⟨[a], [(Str.ofString "start", v)]⟩ := by unfold argsOk; kernel_rfl
/-- a walk that begins one turn before -/
theorem walk_up {prog : Program} {w : World} {A : Around} {J : Addr} {fp wr : List Addr} {n : Nat} {Y : Nat → Value → Prop} {Z : Nat → Heap → Prop} (W : Walks prog w A J fp wr n Y Z) :
    Walks prog w A J fp wr (n + 1) (fun i v => match i with | 0 => False | i + 1 => Y i v) (fun i h => match i with | 0 => False | i + 1 => Z i h) where
  sub := W.sub
  frame := fun i h h' st k => by
    cases i with
    | zero => exact st
    | succ i => exact W.frame i h h' st k
  item := fun i s Q E hi st hQ => by
    cases i with
    | zero => exact st.elim
    | succ i => exact W.item i s Q E (by omega) st fun v h' tk a b c => hQ v h' tk a b c
  done := fun s Q E st hQ => W.done s Q E st hQ
  self := fun i s Q E st hQ => by
    cases i with
    | zero => exact st.elim
    | succ i => exact W.self i s Q E st hQ
def up (c : Int) (val : Nat → Int) : Nat → Int
  | 0 => c
  | i + 1 => val i
theorem preSum_up (c : Int) (val : Nat → Int) : ∀ n, preSum (up c val) (n + 1) = c + preSum val n
  | 0 => by simp [preSum, up]
  | n + 1 => by
    rw [preSum, preSum_up c val n, preSum]
    show c + preSum val n + val n = _
    omega
section
variable {prog : Program} {w : World} {A : Around} {E : Value → Shared → Prop} {s : Shared}
theorem sum_from {l : Addr} {xs : Array (Int × Tok)} {c : Int} {t0 : Tok} {Q : Value → Shared → Prop} (hh : A.handled = none) (hl : s.heap.IsList l (intItems xs))
    (h : ∀ h' tk t', (∀ b o, s.heap.get? b = some o → h'.get? b = some o) → Q (.int (c + preSum (numAt xs) xs.size) t') { s with heap := h', toks := tk }) :
    wpAny (model prog w) A (call (.builtin "sum") [.ref l] [(Str.ofString "start", .int c t0)]) Q E s := by
  have run : wpAny (model prog w) A.in1 (Builtin.«sum» ⟨[.ref l], [(Str.ofString "start", .int c t0)]⟩) (fun fin s' => match fin with
      | .done f => (match (Except.ok f : Result) with | .ok (.ret v) => Q v s' | .ok _ => False | .error e => E e s')
      | .again c' => c'.quiet = true ∧ codeAny (model prog w) A c' (fun r s' => match r with | .ok (.ret v) => Q v s' | .ok _ => False | .error e => E e s') s') E s := by
    unfold Builtin.«sum»
    simp only [List.length_cons, List.length_nil, Nat.zero_add]
    rw [if_neg (by decide)]
    refine wpAny_bind (wpAny_of_eq (show Builtin.Builtins.bindParams "sum" ["start"] 0 ⟨[], [(Str.ofString "start", Value.int c t0)]⟩ = pure [some (.int c t0)] from by first | rfl | kernel_rfl) ?_)
    refine wpAny_bind (iter_intList hl fun s2 e2 st hfp hne => ?_)
    subst e2
    have W := walk_up (Walks.list (prog := prog) (w := w) (A := A.in1) hh s.heap.objs.size l hne (intItems xs))
    have go : ∀ (tk : Nat) (tv : Tok) (stg : Int), (stg = 0 ∨ stg = 2) → ∀ h3 : Heap, h3 = (s.heap.push { cls := .type "list_iterator", data := .fields #[.ref l, .int 0 0] }).push { cls := .type "list", data := .seq #[Value.int c tv] } →
        codeAny (model prog w) A (.builtin "sum.loop" ⟨[.ref s.heap.objs.size, .ref (s.heap.push { cls := .type "list_iterator", data := .fields #[.ref l, .int 0 0] }).objs.size, rawInt stg, rawInt 0], []⟩)
          (fun r s' => match r with | .ok (.ret v) => Q v s' | .ok _ => False | .error e => E e s') { s with heap := h3, toks := tk } := fun tk tv stg hst h3 e3 => by
      subst e3
      refine codeAny_sum_loopG W (up c (numAt xs)) (fun i v hv => ?_) _ (fun hm => Nat.lt_irrefl _ (hfp _ hm)) (intItems xs).size 1 _ tv 0 stg hst (by omega) (by omega) ?_ ?_ fun h' tk' t' hk => ?_
      · cases i with
        | zero => exact hv.elim
        | succ i => exact intItems_at hv
      · exact W.frame 1 _ _ (show _ ∧ _ from st) fun b _ o e => Heap.get?_push_of_some _ e
      · have e : preSum (up c (numAt xs)) 1 = c := by simp [preSum, up]
        rw [e]
        exact Heap.get?_push_size _ rfl
      · have e : (intItems xs).size = xs.size := by simp [intItems]
        rw [preSum_up, e]
        refine h h' tk' t' fun b o eb => ?_
        have hb := Heap.lt_size eb
        have e1 : (s.heap.push { cls := .type "list_iterator", data := .fields #[.ref l, .int 0 0] }).get? b = some o := Heap.get?_push_of_some _ eb
        exact hk b o (by simpa using Nat.ne_of_lt hb) (Nat.ne_of_lt (Heap.lt_size e1)) (Heap.get?_push_of_some _ e1)
    have stg : ∀ (tk : Nat) (tv : Tok) (g : Int), (g = 0 ∨ g = 2) → plainId "sum.loop" = true → (Code.builtin "sum.loop" ⟨[.ref s.heap.objs.size, .ref (s.heap.push { cls := .type "list_iterator", data := .fields #[.ref l, .int 0 0] }).objs.size, rawInt g, rawInt 0], []⟩).quiet = true :=
      fun _ _ _ _ hp => plainId_quiet hp _
    show wpAny (model prog w) A.in1 (ite _ _ _) _ _ _
    split
    · refine wpAny_bind (wpAny_rule (wpAny_bind (wpAny_mkInt (wpAny_bind (wpAny_pure ?_)))))
      simp only [List.forIn_cons, List.forIn_nil]
      refine wpAny_bind (wpAny_bind (wpAny_bind (wpAny_isInstance (typeIs_int _ c _) PySem.sub_int_str (b := false) (T := "int") ?_)))
      rw [if_neg Bool.false_ne_true]
      refine wpAny_pure (wpAny_bind (wpAny_bind (wpAny_isInstance (typeIs_int _ c _) sub_int_bytes (b := false) (T := "int") ?_)))
      rw [if_neg Bool.false_ne_true]
      refine wpAny_pure (wpAny_bind (wpAny_bind (wpAny_isInstance (typeIs_int _ c _) sub_int_bytearray (b := false) (T := "int") ?_)))
      rw [if_neg Bool.false_ne_true]
      exact wpAny_pure (wpAny_pure (wpAny_bind (wpAny_newObj_type (wpAny_pure ⟨stg 0 0 _ (.inl rfl) F.plain_sum_loop, go _ _ 0 (.inl rfl) _ rfl⟩))))
    · refine wpAny_bind (wpAny_pure ?_)
      simp only [List.forIn_cons, List.forIn_nil]
      refine wpAny_bind (wpAny_bind (wpAny_bind (wpAny_isInstance (typeIs_int _ c _) PySem.sub_int_str (b := false) (T := "int") ?_)))
      rw [if_neg Bool.false_ne_true]
      refine wpAny_pure (wpAny_bind (wpAny_bind (wpAny_isInstance (typeIs_int _ c _) sub_int_bytes (b := false) (T := "int") ?_)))
      rw [if_neg Bool.false_ne_true]
      refine wpAny_pure (wpAny_bind (wpAny_bind (wpAny_isInstance (typeIs_int _ c _) sub_int_bytearray (b := false) (T := "int") ?_)))
      rw [if_neg Bool.false_ne_true]
      exact wpAny_pure (wpAny_pure (wpAny_bind (wpAny_newObj_type (wpAny_pure ⟨stg 0 0 _ (.inr rfl) F.plain_sum_loop, go _ _ 2 (.inr rfl) _ rfl⟩))))
  refine wpAny_call (codeAny_call_builtin F.plain_sum F.entry_sum ?_)
  simp only [checkBuiltinCall, F.kind_sum]
  have ha := args_sumS (.ref l) (.int c t0)
  cases hs : Manifest.signature? "sum" with
  | none => exact wpAny_pure run
  | some sg =>
    simp only [argsOk, hs] at ha
    have h2 : Bind.checkArgs "sum" sg ⟨[.ref l], [(Str.ofString "start", .int c t0)]⟩ = pure () := ha
    show wpAny _ A.in1 (Bind.checkArgs "sum" sg ⟨[.ref l], [(Str.ofString "start", .int c t0)]⟩) _ _ s
    rw [h2]
    exact wpAny_pure run
end
section
variable {X : Cx} {T : Cls2} {C : Ctx} {pos p1 kp : Pos} {x y : Expr} {a b : E}
theorem cr_sum2 (hc : X.calm = true) : CallRK X (.builtin "sum") [Str.ofString "start"] (fun vs zs H Q => ∃ (a : Addr) (ns : List Int) (c : Int), vs = [.ref a] ∧ zs = [.int c] ∧ SqL X.K H a (ns.map V.int) ∧ Q (.int (c + ns.sum)) H) := by
  intro pins s σ H vs zs us ws Q I r r2 h
  obtain ⟨a, ns, c, rfl, rfl, hs, q⟩ := h
  obtain ⟨its, rv, hl, _⟩ := I.list hs
  obtain ⟨u, rfl, ru⟩ := vals1 r
  cases ru
  obtain ⟨u2, rfl, t2, rfl⟩ := vals1 r2
  have hi := rv.ints
  obtain ⟨xs, e⟩ := hi.allInts.items
  have hn : numsOf (intItems xs).toList = ns := by rw [← e]; exact hi.numsOf
  rw [nums_intItems] at hn
  have hl := hl.isList
  rw [e] at hl
  refine sum_from (I.ok.hd hc) hl fun h' tk t' hk => ⟨.int _, H, I.kept hk, ⟨_, rfl⟩, ?_⟩
  rw [preSum_eq, List.take_of_length_le (by simp), hn]
  exact q
theorem se_sum2 {nm kn : Str} (hc : X.calm = true) (hnm : nm = "sum") (hkn : kn = "start") (hg : Gl X nm) (hm : X.mg nm = none) (ha : SE T X x (ev C a)) (hb : SE T X y (ev C b)) (hp : plainE x = true) :
    SE T X (.Call (.Name nm p1) [x] [⟨some kn, y, kp⟩] pos) (ev C (.bi .sum2 (.cons a (.cons b .nil)))) := by
  subst hnm hkn
  have hst : (backTo pos (starEach [x] X.env)).any (·.1) = false := stars_no (es := [x]) X.env pos (by rw [List.all_cons, hp]; rfl)
  have he : backTo pos (starEach [x] X.env) = (false, eval x X.env) :: backTo pos (starEach [] X.env) := by rw [star_eq hp]; rfl
  refine (pe_callBK (cr_sum2 hc) hg hm boot_sum (pa_cons ha pa_nil (star_eq hp [] X.env)) (pk_cons hb pk_nil) (by decide +kernel) (by decide +kernel) he hst rfl rfl rfl).imp fun σ H Q ⟨av, Γ, r, Γ', rl, e, q⟩ => ?_
  rw [ev] at e
  obtain ⟨⟨rs, Γ2⟩, e2, e⟩ := Option.bind_eq_some_iff.mp e
  obtain ⟨ds, e4, e⟩ := Option.bind_eq_some_iff.mp e
  obtain ⟨r0, e5, e⟩ := Option.map_eq_some_iff.mp e
  cases e
  rw [evA] at e2
  obtain ⟨⟨ra, Γ1⟩, e1, e2⟩ := Option.bind_eq_some_iff.mp e2
  obtain ⟨⟨ra', Γ1'⟩, g1, e2⟩ := Option.bind_eq_some_iff.mp e2
  cases g1
  obtain ⟨⟨rs', Γ5⟩, e9, e2⟩ := Option.map_eq_some_iff.mp e2
  cases e2
  rw [evA] at e9
  obtain ⟨⟨rb, Γ3⟩, e6, e9⟩ := Option.bind_eq_some_iff.mp e9
  obtain ⟨⟨rb', Γ3'⟩, g2, e9⟩ := Option.bind_eq_some_iff.mp e9
  cases g2
  obtain ⟨⟨rs2, Γ6⟩, e10, e9⟩ := Option.map_eq_some_iff.mp e9
  cases e9
  rw [evA] at e10
  cases e10
  rw [List.mapM_cons, List.mapM_cons, List.mapM_nil] at e4
  obtain ⟨dx, g3, e4⟩ := Option.bind_eq_some_iff.mp e4
  obtain ⟨l2, g4, e4⟩ := Option.bind_eq_some_iff.mp e4
  obtain ⟨dy, g5, g4⟩ := Option.bind_eq_some_iff.mp g4
  cases g4
  cases e4
  obtain ⟨xs, c, ns, rfl, rfl, g6, g7⟩ : ∃ xs c ns, dx = .lst xs ∧ dy = .int c ∧ intsD xs = some ns ∧ r = .val (.int (c + ns.sum)) := by
    cases dx with
    | lst xs =>
      cases dy with
      | int c =>
        obtain ⟨ns, h1, h2⟩ := Option.bind_eq_some_iff.mp (show (intsD xs).bind (fun ns => vl (.int (c + ns.sum))) = some r from e5)
        cases h2
        exact ⟨xs, c, ns, rfl, rfl, h1, rfl⟩
      | _ => cases e5
    | _ => cases e5
  subst g7
  refine ⟨av, Γ, ra, Γ1, rl, e1, fun va H1 av1 P1 => ⟨av1, Γ1, rb, _, P1.rel, e6, fun vb H2 av2 P2 => ?_⟩⟩
  obtain ⟨p, us, rfl, h1, h2⟩ := vlst (look_ok P2.rel (P1.rep.fra P1.rel P2.fra) g3)
  cases ints_rep g6 h2
  exact ⟨p, ns, c, rfl, by rw [vint (look_ok P2.rel P2.rep g5)], SqL.of h1, q _ _ _ (P2.rel.post0 (P1.fra.trans rl P2.fra) rint)⟩
end
end Mi

namespace Mi
open PySem PySem.Spec L2
open PyProof.Rows hiding St

/-! ## what is lent while it is walked -/
theorem back_get : ∀ {is : List Nat} {Γ : G} {i : Nat} {e : En}, (back Γ is)[i]? = some e → (Γ[i]? = some e ∧ (i ∈ is → ¬ IsBor (some e))) ∨ ∃ o, i ∈ is ∧ Γ[i]? = some (.bor o) ∧ e = .own o
  | [], Γ, i, e, h => .inl ⟨h, fun z => by cases z⟩
  | j :: is, Γ, i, e, h => by
    unfold back at h
    split at h
    · rename_i o ho
      have hj : j < Γ.length := (List.getElem?_eq_some_iff.mp ho).1
      rcases back_get h with ⟨h1, h2⟩ | ⟨o', h1, h2, h3⟩
      · by_cases hi : j = i
        · subst hi
          rw [List.getElem?_set_self hj] at h1
          cases h1
          exact .inr ⟨o, List.mem_cons_self, ho, rfl⟩
        · rw [List.getElem?_set_ne hi] at h1
          exact .inl ⟨h1, fun z => h2 ((List.mem_cons.mp z).resolve_left fun q => hi q.symm)⟩
      · by_cases hi : j = i
        · subst hi
          rw [List.getElem?_set_self hj] at h2
          cases h2
        · rw [List.getElem?_set_ne hi] at h2
          exact .inr ⟨o', List.mem_cons_of_mem _ h1, h2, h3⟩
    · rename_i hn
      rcases back_get h with ⟨h1, h2⟩ | ⟨o', h1, h2, h3⟩
      · refine .inl ⟨h1, fun z => ?_⟩
        rcases List.mem_cons.mp z with q | q
        · subst q
          intro w
          obtain ⟨o, w⟩ := isBor_some w
          cases w
          exact hn _ h1
        · exact h2 q
      · exact .inr ⟨o', List.mem_cons_of_mem _ h1, h2, h3⟩
theorem back_len : ∀ {is : List Nat} {Γ : G}, (back Γ is).length = Γ.length
  | [], _ => rfl
  | j :: is, Γ => by
    unfold back
    split
    · rw [back_len, List.length_set]
    · exact back_len
/-- Γ1 is Γ with what stands in is lent -/
structure Lent (Γ Γ1 : G) (is : List Nat) : Prop where
  len : Γ1.length = Γ.length
  at_ : ∀ (i : Nat) e, Γ1[i]? = some e → Γ[i]? = some e ∨ ∃ o, i ∈ is ∧ e = .bor o ∧ Γ[i]? = some (.own o)
  br : ∀ i ∈ is, ∃ o, Γ[i]? = some (.own o)
theorem Lent.refl {Γ : G} : Lent Γ Γ [] := ⟨rfl, fun _ _ h => .inl h, fun _ h => by cases h⟩
theorem Lent.trans {Γ Γ1 Γ2 : G} {is js : List Nat} (a : Lent Γ Γ1 is) (b : Lent Γ1 Γ2 js) : Lent Γ Γ2 (is ++ js) := by
  refine ⟨b.len.trans a.len, fun i e h => ?_, fun i hi => ?_⟩
  · rcases b.at_ i e h with h | ⟨o, h1, h2, h3⟩
    · rcases a.at_ i e h with h | ⟨o, h1, h2, h3⟩
      · exact .inl h
      · exact .inr ⟨o, List.mem_append_left _ h1, h2, h3⟩
    · rcases a.at_ i _ h3 with h | ⟨o', _, h5, _⟩
      · exact .inr ⟨o, List.mem_append_right _ h1, h2, h⟩
      · cases h5
  · rcases List.mem_append.mp hi with hi | hi
    · exact a.br i hi
    · obtain ⟨o, h⟩ := b.br i hi
      rcases a.at_ i _ h with h | ⟨o', _, h5, _⟩
      · exact ⟨o, h⟩
      · cases h5
theorem lend_lent (Γ : G) (r : R) : Lent Γ (lend Γ r).1 (lend Γ r).2.toList := by
  cases r with
  | val d => exact .refl
  | fr o => exact .refl
  | loc i =>
    unfold lend
    simp only
    split
    · rename_i o ho
      have hi : i < Γ.length := (List.getElem?_eq_some_iff.mp ho).1
      refine ⟨by rw [List.length_set], fun j e h => ?_, fun j hj => ?_⟩
      · by_cases hj : i = j
        · subst hj
          rw [List.getElem?_set_self hi] at h
          cases h
          exact .inr ⟨o, by simp, rfl, ho⟩
        · rw [List.getElem?_set_ne hj] at h
          exact .inl h
      · have : j = i := by simpa using hj
        subst this
        exact ⟨o, ho⟩
    · exact .refl
section
variable {T : Cls2} {K : PySem.W.Frag} {H H' H1 H2 : Hp} {av av' av1 av2 : Av} {Γ Γ' Γ1 Γ2 : G} {σ σ' σ1 σ2 : St} {is : List Nat}
theorem Lent.own (l : Lent Γ Γ1 is) {i : Nat} {a : Addr} (h : OwnAt Γ1 σ i a) : OwnAt Γ σ i a := by
  obtain ⟨o, e⟩ := isOwn_some h.1
  rcases l.at_ i _ e with h1 | ⟨o', _, h2, _⟩
  · exact .mk' h1 h.2
  · cases h2
theorem Lent.bor (l : Lent Γ Γ1 is) {i : Nat} {a : Addr} (h : BorAt Γ1 σ i a) : BorAt Γ σ i a ∨ (i ∈ is ∧ OwnAt Γ σ i a) := by
  obtain ⟨o, e⟩ := isBor_some h.1
  rcases l.at_ i _ e with h1 | ⟨o', h3, h2, h4⟩
  · exact .inl (.mk' h1 h.2)
  · exact .inr ⟨h3, .mk' h4 h.2⟩
theorem Lent.held (l : Lent Γ Γ1 is) {i : Nat} {a : Addr} (h : HeldAt Γ1 σ i a) : HeldAt Γ σ i a := h.elim (fun z => .inl (l.own z)) fun z => (l.bor z).elim .inr fun q => .inl q.2
theorem Lent.rel (l : Lent Γ Γ1 is) (rl : Rel T K av Γ σ H) : Rel T K av Γ1 σ H := by
  refine ⟨l.len.trans rl.len, fun i e h => ?_, fun i j p h1 h2 h3 h4 => ?_, rl.trk⟩
  · rcases l.at_ i e h with h | ⟨o, _, h2, h3⟩
    · exact rl.ent i e h
    · subst h2
      exact (show ERep T K H av (.bor o) σ[i]? from rl.ent i (.own o) h3)
  · exact rl.inj' (l.own ⟨h1, h3⟩) (l.held (h2.elim (fun z => .inl ⟨z, h4⟩) fun z => .inr ⟨z, h4⟩))
theorem Lent.nh (l : Lent Γ Γ1 is) {a : Addr} (h : ¬ OwnS Γ σ a) : ¬ OwnS Γ1 σ a := fun ⟨i, z⟩ => h ⟨i, l.own z⟩
/-- behind the walk: what was lent is owned again -/
theorem Lent.back (l : Lent Γ Γ1 is) (rl : Rel T K av Γ σ H) (f : Fra σ Γ1 av H σ2 Γ2 av2 H2) (rl2 : Rel T K av2 Γ2 σ2 H2) : Rel T K av2 (Mi.back Γ2 is) σ2 H2 ∧ Fra σ Γ av H σ2 (Mi.back Γ2 is) av2 H2 := by
  have bo : ∀ i a, OwnAt (Mi.back Γ2 is) σ2 i a → OwnAt Γ2 σ2 i a ∨ (BorAt Γ2 σ2 i a ∧ i ∈ is) := fun i a z => by
    obtain ⟨o, e⟩ := isOwn_some z.1
    rcases back_get e with ⟨h1, _⟩ | ⟨o', h1, h2, h3⟩
    · exact .inl (.mk' h1 z.2)
    · exact .inr ⟨.mk' h2 z.2, h1⟩
  have bb : ∀ i a, BorAt (Mi.back Γ2 is) σ2 i a → BorAt Γ2 σ2 i a ∧ i ∉ is := fun i a z => by
    obtain ⟨o, e⟩ := isBor_some z.1
    rcases back_get e with ⟨h1, h2⟩ | ⟨o', h1, h2, h3⟩
    · exact ⟨.mk' h1 z.2, fun q => h2 q trivial⟩
    · cases h3
  -- lent ones of Γ2 stood in Γ1, so were held in Γ
  have own0 : ∀ i a, BorAt Γ2 σ2 i a → i ∈ is → OwnAt Γ σ i a := fun i a z hi => by
    rcases l.bor (f.bor i a z) with h | ⟨_, h⟩
    · obtain ⟨o, e⟩ := l.br i hi
      have := h.1
      rw [e] at this
      exact this.elim
    · exact h
  refine ⟨⟨by rw [back_len]; exact rl2.len, fun i e h => ?_, fun i j p h1 h2 h3 h4 => ?_, rl2.trk⟩, ⟨fun a o h n => f.keep a o h (l.nh n), f.thr, fun a z n => f.av1 a z (l.nh n), f.av2, fun i a z => ?_, fun i a z => ?_⟩⟩
  · rcases back_get h with ⟨h1, _⟩ | ⟨o, h1, h2, h3⟩
    · exact rl2.ent i e h1
    · subst h3
      exact (show ERep T K H2 av2 (.own o) σ2[i]? from rl2.ent i (.bor o) h2)
  · rcases bo i p ⟨h1, h3⟩ with z | ⟨z, zi⟩
    · have : HeldAt Γ2 σ2 j p := h2.elim (fun q => (bo j p ⟨q, h4⟩).elim .inl fun w => .inr w.1) fun q => .inr (bb j p ⟨q, h4⟩).1
      exact rl2.inj' z this
    · rcases h2 with q | q
      · rcases bo j p ⟨q, h4⟩ with w | ⟨w, wj⟩
        · exact (rl2.inj' w (.inr z)).symm
        · exact rl.inj' (own0 i p z zi) (.inl (own0 j p w wj))
      · obtain ⟨w, wj⟩ := bb j p ⟨q, h4⟩
        rcases l.bor (f.bor j p w) with h | ⟨h, _⟩
        · exact rl.inj' (own0 i p z zi) (.inr h)
        · exact (wj h).elim
  · rcases bo i a z with z | ⟨z, zi⟩
    · exact (f.own i a z).imp l.own id
    · exact .inl (own0 i a z zi)
  · obtain ⟨w, wi⟩ := bb i a z
    rcases l.bor (f.bor i a w) with h | ⟨h, _⟩
    · exact h
    · exact (wi h).elim
end

/-! ## what is walked -/
/-- at each later state the walk yields these data -/
def Walk (T : Cls2) (K : PySem.W.Frag) (w : Bool) (J : L2.It) (σ : St) (Γ : G) (av : Av) (H : Hp) (ds : List D) : Prop := ∀ σ2 Γ2 av2 H2, Rel T K av2 Γ2 σ2 H2 → Fra σ Γ av H σ2 Γ2 av2 H2 → ∀ i : Nat, (ds.length ≤ i → i ≤ ds.length → J.stop i H2) ∧
  ∀ d, ds[i]? = some d → J.go i H2 ∧ ∀ x H3, J.yld i H2 x H3 → Rel T K av2 Γ2 σ2 H3 ∧ Fra σ2 Γ2 av2 H2 σ2 Γ2 av2 H3 ∧ PRep T K w H3 av2 d x
structure PostI (T : Cls2) (K : PySem.W.Frag) (w : Bool) (σ : St) (av : Av) (Γ : G) (H : Hp) (Γ1 : G) (ds : List D) (brs : List Nat) (J : L2.It) (H' : Hp) (av' : Av) : Prop where
  ex : ∃ Γp, Rel T K av' Γp σ H' ∧ Fra σ Γ av H σ Γp av' H' ∧ Lent Γp Γ1 brs
  walk : Walk T K w J σ Γ1 av' H' ds
def tI (T : Cls2) (K : PySem.W.Frag) (w : Bool) (f : G → Option (List D × List Nat × G)) : TI := fun σ H R => ∃ av Γ ds brs Γ1, Rel T K av Γ σ H ∧ f Γ = some (ds, brs, Γ1) ∧ ∀ J H' av', PostI T K w σ av Γ H Γ1 ds brs J H' av' → R J H'
section
variable {T : Cls2} {K : PySem.W.Frag} {H H0 H' H1 H2 : Hp} {av av' av1 av2 : Av} {Γ Γ' Γ1 Γ2 : G} {σ σ' σ1 σ2 : St} {is : List Nat} {ds : List D} {xs : List V} {a : Addr}
/-- a list or a tuple that stays while it is walked -/
def StayS (K : PySem.W.Frag) (Γ : G) (σ : St) (H : Hp) (a : Addr) (xs : List V) : Bool → Prop
  | true => (H a = some (.lst xs) ∧ ¬ OwnS Γ σ a) ∨ (∃ o, H a = some (.frz o (.lst xs))) ∨ KL K a xs
  | false => SqT K H a xs
def Stay (T : Cls2) (K : PySem.W.Frag) (k : Bool) (Γ : G) (σ : St) (H : Hp) (av : Av) (a : Addr) (ds : List D) (xs : List V) : Prop := StayS K Γ σ H a xs k ∧ Reps T K H av ds xs
theorem Stay.later {k : Bool} (rl : Rel T K av Γ σ H) (s : Stay T K k Γ σ H av a ds xs) (f : Fra σ Γ av H σ2 Γ2 av2 H2) : Sq k K H2 a xs ∧ Reps T K H2 av2 ds xs := by
  refine ⟨?_, s.2.kp (f.kp rl)⟩
  have s1 := s.1
  cases k with
  | true =>
    rcases s1 with ⟨h, n⟩ | ⟨o, h⟩ | h
    · exact .inl (.inl (f.keep _ _ h n))
    · exact .inl (.inr ⟨o, f.keep _ _ h fun z => by
        obtain ⟨_, u, hu, w⟩ := rl.ownS z
        rw [h] at hu
        cases hu
        exact w⟩)
    · exact .inr h
  | false => exact SqT.kp s1 (f.kp rl)
def isSq : D → Bool
  | .tup _ => false
  | _ => true
/-- from what an expression gave -/
theorem stay_of {r : R} {v : V} (rl : Rel T K av Γ σ H) (h : RRep T K H0 σ Γ H av r v) {d : D} (e : look Γ r = some d) (l : Lent (lend Γ r).1 Γ1 is) (hi : items d = some ds) : ∃ a xs, v = .ref a ∧ Stay T K (isSq d) Γ1 σ H av a ds xs := by
  have rl0 : Rel T K av (lend Γ r).1 σ H := (lend_lent Γ r).rel rl
  have rl1 : Rel T K av Γ1 σ H := l.rel rl0
  have own1 : ∀ a, OwnS Γ1 σ a → OwnS (lend Γ r).1 σ a := fun a ⟨i, z⟩ => ⟨i, l.own z⟩
  cases r with
  | val d' =>
    cases e
    have h : Rep T K H av d v := h
    cases d with
    | lst ys =>
      cases hi
      unfold Rep at h
      obtain ⟨a, xs, e, h1, h2, h3⟩ := h
      exact ⟨a, xs, e, .inl ⟨h1, fun z => h2 (rl1.ownS z).1⟩, h3⟩
    | scr ys =>
      cases hi
      unfold Rep at h
      obtain ⟨a, xs, e, h1, h3⟩ := h
      rcases h1 with ⟨h1 | h1, h2⟩ | h1
      · exact ⟨a, xs, e, .inl ⟨h1, fun z => h2 (rl1.ownS z).1⟩, h3⟩
      · exact ⟨a, xs, e, .inr (.inl h1), h3⟩
      · exact ⟨a, xs, e, .inr (.inr h1), h3⟩
    | tup ys =>
      cases hi
      unfold Rep at h
      obtain ⟨a, xs, e, h1, h3⟩ := h
      exact ⟨a, xs, e, h1.t, h3⟩
    | _ => cases hi
  | fr o =>
    cases e
    obtain ⟨p, e, h1, h2, h3, h4⟩ := h
    cases o with
    | lst ys =>
      cases hi
      obtain ⟨xs, h5, h6⟩ := h1
      exact ⟨p, xs, e, .inl ⟨h5, fun z => h4 (let ⟨i, q⟩ := own1 p z; ⟨i, .inl ((lend_lent Γ (.fr _)).own q)⟩)⟩, h6⟩
    | _ => cases hi
  | loc i =>
    obtain ⟨p, e1, hp⟩ := h
    unfold look at e
    simp only at e
    split at e
    · rename_i o ho
      cases e
      obtain ⟨q, h1, h2, h3⟩ := rl.own ho
      rw [hp] at h1
      cases h1
      cases o with
      | lst ys =>
        cases hi
        obtain ⟨xs, h5, h6⟩ := h3
        refine ⟨p, xs, e1, .inl ⟨h5, fun z => ?_⟩, h6⟩
        obtain ⟨j, q⟩ := own1 p z
        have hj : j = i := rl.inj' ((lend_lent Γ (.loc i)).own q) (.inl (.mk' ho hp))
        subst hj
        have := q.1
        unfold lend at this
        simp only [ho] at this
        rw [List.getElem?_set_self (List.getElem?_eq_some_iff.mp ho).1] at this
        exact this
      | _ => cases hi
    · rename_i o ho
      cases e
      obtain ⟨q, h1, h2, h3⟩ := rl.bor ho
      rw [hp] at h1
      cases h1
      cases o with
      | lst ys =>
        cases hi
        obtain ⟨xs, h5, h6⟩ := h3
        refine ⟨p, xs, e1, .inl ⟨h5, fun z => ?_⟩, h6⟩
        obtain ⟨j, q⟩ := own1 p z
        have hj : j = i := rl.inj' ((lend_lent Γ (.loc i)).own q) (.inr (.mk' ho hp))
        subst hj
        have := ((lend_lent Γ (.loc j)).own q).1
        rw [ho] at this
        exact this
      | _ => cases hi
    · cases e
theorem look_lend (Γ : G) (r q : R) : look (lend Γ r).1 q = look Γ q := by
  cases r with
  | val d => rfl
  | fr o => rfl
  | loc i =>
    unfold lend
    simp only
    split
    · rename_i o ho
      cases q with
      | val d => rfl
      | fr o => rfl
      | loc j =>
        unfold look
        simp only
        by_cases h : i = j
        · subst h
          rw [List.getElem?_set_self (List.getElem?_eq_some_iff.mp ho).1, ho]
        · rw [List.getElem?_set_ne h]
    · rfl
theorem Lent.rrep {r : R} {v : V} (l : Lent Γ Γ1 is) (h : RRep T K H0 σ Γ H av r v) : RRep T K H0 σ Γ1 H av r v := by
  cases r with
  | val d => exact h
  | loc i => exact h
  | fr o => obtain ⟨p, e, h1, h2, h3, h4⟩ := h; exact ⟨p, e, h1, h2, h3, fun ⟨i, z⟩ => h4 ⟨i, l.held z⟩⟩
def ItS (K : PySem.W.Frag) (a : Addr) : Bool → L2.It
  | true => Itl K a
  | false => Itt K a
theorem walk_seq {w : Bool} {k : Bool} (rl : Rel T K av Γ σ H) (s : Stay T K k Γ σ H av a ds xs) : Walk T K w (ItS K a k) σ Γ av H ds := by
  intro σ2 Γ2 av2 H2 rl2 f i
  obtain ⟨q1, q2⟩ := s.later rl f
  have hl := q2.length
  cases k with
  | true =>
    refine ⟨fun h _ => ⟨xs, q1, by omega⟩, fun d hd => ?_⟩
    obtain ⟨w, h1, h2⟩ := q2.get hd
    refine ⟨⟨xs, w, q1, h1⟩, fun x H3 y => ?_⟩
    obtain ⟨rfl, y2⟩ := y
    have := y2 xs q1
    rw [h1] at this
    cases this
    exact ⟨rl2, Fra.refl, h2.prep⟩
  | false =>
    refine ⟨fun h _ => ⟨xs, q1, by omega⟩, fun d hd => ?_⟩
    obtain ⟨w, h1, h2⟩ := q2.get hd
    refine ⟨⟨xs, w, q1, h1⟩, fun x H3 y => ?_⟩
    obtain ⟨rfl, y2⟩ := y
    have := y2 xs q1
    rw [h1] at this
    cases this
    exact ⟨rl2, Fra.refl, h2.prep⟩
theorem walk_rng {w : Bool} {lo : Int} {n : Nat} : Walk T K w (Itr lo n) σ Γ av H (rangeL lo n 1) := by
  intro σ2 Γ2 av2 H2 rl2 f i
  have hl : (rangeL lo n 1).length = n := by unfold rangeL; simp
  refine ⟨fun h _ => by rw [hl] at h; exact h, fun d hd => ?_⟩
  have hi : i < n := by rw [← hl]; exact (List.getElem?_eq_some_iff.mp hd).1
  refine ⟨hi, fun x H3 y => ?_⟩
  obtain ⟨rfl, rfl⟩ := y
  have : d = .int (lo + i) := by
    unfold rangeL at hd
    rw [List.getElem?_map, List.getElem?_range hi] at hd
    cases hd
    show D.int (lo + i * 1) = _
    rw [Int.mul_one]
  subst this
  exact ⟨rl2, Fra.refl, Rep.prep rint⟩
theorem walk_rngC {w : Bool} {lo c : Int} {n : Nat} : Walk T K w (Itc lo c n) σ Γ av H (rangeL lo n c) := by
  intro σ2 Γ2 av2 H2 rl2 f i
  have hl : (rangeL lo n c).length = n := by unfold rangeL; simp
  refine ⟨fun h _ => by rw [hl] at h; exact h, fun d hd => ?_⟩
  have hi : i < n := by rw [← hl]; exact (List.getElem?_eq_some_iff.mp hd).1
  refine ⟨hi, fun x H3 y => ?_⟩
  obtain ⟨rfl, rfl⟩ := y
  have : d = .int (lo + (i : Nat) * c) := by
    unfold rangeL at hd
    rw [List.getElem?_map, List.getElem?_range hi] at hd
    cases hd
    rfl
  subst this
  exact ⟨rl2, Fra.refl, Rep.prep rint⟩
theorem rng3_ok {i j c : Int} (h1 : -1000000 < i) (h2 : i < 1000000) (h3 : -1000000 < j) (h4 : j < 1000000) (h5 : 0 < c) (h6 : c < 1000000) : RgC i j c (rng3n i j c) := by
  have hs : Builtin.Range.rangeSize i j c = (rng3n i j c : Int) := by
    unfold Builtin.Range.rangeSize rng3n
    rw [if_pos h5]
    split
    · have : 0 ≤ (j - i - 1) / c := Int.ediv_nonneg (by omega) (by omega)
      omega
    · rfl
  have hb : (rng3n i j c : Int) ≤ 3000000 := by
    unfold rng3n
    split
    · have h0 : 0 ≤ (j - i - 1) / c := Int.ediv_nonneg (by omega) (by omega)
      have : (j - i - 1) / c ≤ j - i - 1 := Int.ediv_le_self _ (by omega)
      omega
    · decide
  refine ⟨by omega, by omega, ?_, hs⟩
  unfold Builtin.Range.small
  rw [hs, if_pos h5]
  simp only [Builtin.Range.rangeFitsLong, Bool.and_eq_true, Bool.or_eq_true, decide_eq_true_eq]
  refine ⟨⟨⟨⟨⟨?_, ?_⟩, ⟨?_, ?_⟩⟩, ⟨?_, ?_⟩⟩, ⟨?_, ?_⟩⟩, .inr ⟨?_, ?_⟩⟩ <;> omega
theorem sq_uniq {k : Bool} {ys : List V} (h : Sq k K H a xs) (g : ∀ zs, Sq k K H a zs → zs = xs) : True := trivial
theorem walk_zip {k l : Bool} {es : List D} {b : Addr} {ys : List V} (rl : Rel T K av Γ σ H) (s : Stay T K k Γ σ H av a ds xs) (t : Stay T K l Γ σ H av b es ys) : Walk T K true (Iz k l K a b) σ Γ av H (zipD ds es) := by
  intro σ2 Γ2 av2 H2 rl2 f i
  obtain ⟨q1, q2⟩ := s.later rl f
  obtain ⟨r1, r2⟩ := t.later rl f
  have hl := q2.length
  have hl2 := r2.length
  have zl : ∀ (ds es : List D), (zipD ds es).length = min ds.length es.length := by
    intro ds
    induction ds with
    | nil => intro es; cases es <;> simp [zipD]
    | cons d ds ih =>
      intro es
      cases es with
      | nil => simp [zipD]
      | cons e es => simp [zipD, ih]
  have zg : ∀ (ds es : List D) (i : Nat) (d : D), (zipD ds es)[i]? = some d → ∃ x y, ds[i]? = some x ∧ es[i]? = some y ∧ d = .tup [x, y] := by
    intro ds
    induction ds with
    | nil => intro es i d h; cases es <;> simp [zipD] at h
    | cons d0 ds ih =>
      intro es i d h
      cases es with
      | nil => simp [zipD] at h
      | cons e es =>
        unfold zipD at h
        cases i with
        | zero => simp at h; subst h; exact ⟨d0, e, rfl, rfl, rfl⟩
        | succ i => simpa using ih es i d (by simpa using h)
  refine ⟨fun h h' => ⟨xs, ys, q1, r1, by have := zl ds es; omega⟩, fun d hd => ?_⟩
  obtain ⟨dx, dy, e1, e2, rfl⟩ := zg ds es i d hd
  obtain ⟨w, h1, h2⟩ := q2.get e1
  obtain ⟨u, h3, h4⟩ := r2.get e2
  refine ⟨⟨xs, ys, q1, r1, (List.getElem?_eq_some_iff.mp h1).1, (List.getElem?_eq_some_iff.mp h3).1⟩, fun x H3 y => ?_⟩
  obtain ⟨p, v1, v2, rfl, hp, rfl, g1, g2⟩ := y
  have c1 := g1 xs q1
  have c2 := g2 ys r1
  rw [h1] at c1
  cases c1
  rw [h3] at c2
  cases c2
  have ff := alloc_fra (σ := σ2) (Γ := Γ2) (av := av2) (u := .tup [w, u]) hp false
  have rr := alloc_rel (T := T) (K := K) (u := .tup [w, u]) rl2 hp false
  have eq : (fun a => av2 a ∨ (false = true ∧ a = p)) = av2 := by
    funext a
    simp
  rw [eq] at ff rr
  refine ⟨rr, ff, ?_⟩
  show WRep T K _ _ (.tup [dx, dy]) _
  exact ⟨p, [w, u], rfl, .inl (.inl upd_same), .cons (h2.kp (ff.kp rl2)) (.cons (h4.kp (ff.kp rl2)) .nil)⟩
theorem walk_enu {k : Bool} (rl : Rel T K av Γ σ H) (s : Stay T K k Γ σ H av a ds xs) : Walk T K true (Ie k K a) σ Γ av H (enuD 0 ds) := by
  intro σ2 Γ2 av2 H2 rl2 f i
  obtain ⟨q1, q2⟩ := s.later rl f
  have hl := q2.length
  have zl : ∀ (ds : List D) n, (enuD n ds).length = ds.length := by
    intro ds
    induction ds with
    | nil => intro n; rfl
    | cons d ds ih => intro n; simp [enuD, ih]
  have zg : ∀ (ds : List D) (n i : Nat) (d : D), (enuD n ds)[i]? = some d → ∃ x, ds[i]? = some x ∧ d = .tup [.int (n + i : Nat), x] := by
    intro ds
    induction ds with
    | nil => intro n i d h; simp [enuD] at h
    | cons d0 ds ih =>
      intro n i d h
      unfold enuD at h
      cases i with
      | zero => simp at h; subst h; exact ⟨d0, rfl, by simp⟩
      | succ i =>
        obtain ⟨x, h1, h2⟩ := ih (n + 1) i d (by simpa using h)
        exact ⟨x, by simpa using h1, by rw [h2]; congr 3; omega⟩
  refine ⟨fun h h' => ⟨xs, q1, by have := zl ds 0; omega⟩, fun d hd => ?_⟩
  obtain ⟨dx, e1, rfl⟩ := zg ds 0 i d hd
  obtain ⟨w, h1, h2⟩ := q2.get e1
  refine ⟨⟨xs, q1, (List.getElem?_eq_some_iff.mp h1).1⟩, fun x H3 y => ?_⟩
  obtain ⟨p, v1, rfl, hp, rfl, g1⟩ := y
  have c1 := g1 xs q1
  rw [h1] at c1
  cases c1
  have ff := alloc_fra (σ := σ2) (Γ := Γ2) (av := av2) (u := .tup [.int (i : Nat), w]) hp false
  have rr := alloc_rel (T := T) (K := K) (u := .tup [.int (i : Nat), w]) rl2 hp false
  have eq : (fun a => av2 a ∨ (false = true ∧ a = p)) = av2 := by
    funext a
    simp
  rw [eq] at ff rr
  refine ⟨rr, ff, ?_⟩
  show WRep T K _ _ (.tup [_, dx]) _
  refine ⟨p, [.int (i : Nat), w], rfl, .inl (.inl upd_same), .cons ?_ (.cons (h2.kp (ff.kp rl2)) .nil)⟩
  rw [Nat.zero_add]
  exact rint
theorem walk_rev {w : Bool} (rl : Rel T K av Γ σ H) (s : Stay T K true Γ σ H av a ds xs) : Walk T K w (Itv K a xs.length) σ Γ av H ds.reverse := by
  intro σ2 Γ2 av2 H2 rl2 f i
  obtain ⟨q1, q2⟩ := s.later rl f
  have hl := q2.length
  refine ⟨fun h _ => ?_, fun d hd => ?_⟩
  · rw [List.length_reverse, hl] at h
    exact h
  · have hi := (List.getElem?_eq_some_iff.mp hd).1
    rw [List.length_reverse] at hi
    rw [List.getElem?_reverse hi] at hd
    rw [hl] at hd hi
    obtain ⟨w, h1, h2⟩ := q2.get hd
    refine ⟨⟨hi, xs, w, q1, h1⟩, fun x H3 y => ?_⟩
    obtain ⟨rfl, y2⟩ := y
    have := y2 xs q1
    rw [h1] at this
    cases this
    exact ⟨rl2, Fra.refl, h2.prep⟩
theorem walk_str {w : Bool} {z : Str} : Walk T K w (Its z) σ Γ av H (oneC z) := by
  intro σ2 Γ2 av2 H2 rl2 f i
  have hl : (oneC z).length = z.cps.size := by unfold oneC; simp
  refine ⟨fun h _ => by rw [hl] at h; exact h, fun d hd => ?_⟩
  have hi : i < z.cps.size := by rw [← hl]; exact (List.getElem?_eq_some_iff.mp hd).1
  refine ⟨hi, fun x H3 y => ?_⟩
  obtain ⟨rfl, c, h1, rfl⟩ := y
  have : d = .str ⟨#[c]⟩ := by
    unfold oneC at hd
    rw [List.getElem?_map, Array.getElem?_toList, h1] at hd
    cases hd
    rfl
  subst this
  exact ⟨rl2, Fra.refl, Rep.prep rstr⟩
end
section
variable {X : Cx} {T : Cls2} {C : Ctx} {pos p1 : Pos} {x y z tg : Expr} {a b c : E}
def isTup : Expr → Bool
  | .Tuple .. => true
  | _ => false
abbrev SI (T : Cls2) (X : Cx) (tg e : Expr) (f : G → Option (List D × List Nat × G)) : Prop := PI X tg e (tI T X.K (isTup tg) f)
theorem si_seq (ha : SE T X x (ev C a)) : SI T X tg x (evI C (.seq a)) := by
  refine ⟨fun pins s σ H R I ⟨av, Γ, ds, brs, Γ1, rl, e, q⟩ => ?_⟩
  rw [evI] at e
  obtain ⟨⟨r, Γp⟩, e1, e⟩ := Option.bind_eq_some_iff.mp e
  obtain ⟨d, e2, e⟩ := Option.bind_eq_some_iff.mp e
  obtain ⟨ds', e3, e⟩ := Option.map_eq_some_iff.mp e
  cases e
  have seq : items d = some ds → PIE X pins σ tg R = PIE X pins σ tg R := fun _ => rfl
  cases d with
  | lst ys =>
    refine (pi_list ha).run pins s σ H R I ⟨av, Γ, r, Γp, rl, e1, fun v H1 av1 P => ?_⟩
    obtain ⟨ad, xs, h1, h2⟩ := stay_of P.rel P.rep e2 .refl e3
    exact ⟨ad, h1, ⟨xs, (h2.later ((lend_lent Γp r).rel P.rel) Fra.refl).1⟩, q _ _ _ ⟨⟨Γp, P.rel, P.fra, lend_lent _ _⟩, walk_seq ((lend_lent Γp r).rel P.rel) h2⟩⟩
  | scr ys =>
    refine (pi_list ha).run pins s σ H R I ⟨av, Γ, r, Γp, rl, e1, fun v H1 av1 P => ?_⟩
    obtain ⟨ad, xs, h1, h2⟩ := stay_of P.rel P.rep e2 .refl e3
    exact ⟨ad, h1, ⟨xs, (h2.later ((lend_lent Γp r).rel P.rel) Fra.refl).1⟩, q _ _ _ ⟨⟨Γp, P.rel, P.fra, lend_lent _ _⟩, walk_seq ((lend_lent Γp r).rel P.rel) h2⟩⟩
  | tup ys =>
    refine (pi_tup ha).run pins s σ H R I ⟨av, Γ, r, Γp, rl, e1, fun v H1 av1 P => ?_⟩
    obtain ⟨ad, xs, h1, h2⟩ := stay_of P.rel P.rep e2 .refl e3
    exact ⟨ad, h1, ⟨xs, (h2.later ((lend_lent Γp r).rel P.rel) Fra.refl).1⟩, q _ _ _ ⟨⟨Γp, P.rel, P.fra, lend_lent _ _⟩, walk_seq ((lend_lent Γp r).rel P.rel) h2⟩⟩
  | str z =>
    refine (pi_str ha).run pins s σ H R I ⟨av, Γ, r, Γp, rl, e1, fun v H1 av1 P => ?_⟩
    have e3 : (if z.length ≤ line then some (oneC z) else none) = some ds := e3
    split at e3
    · cases e3
      exact ⟨z, vstr (look_ok P.rel P.rep e2), q _ _ _ ⟨⟨Γp, P.rel, P.fra, lend_lent _ _⟩, walk_str⟩⟩
    · cases e3
  | _ => cases e3
theorem si_rng1 {nm : Str} (hnm : nm = "range") (hg : Gl X nm) (hm : X.mg nm = none) (ha : SE T X x (ev C a)) (hp : plainE x = true) : SI T X tg (.Call (.Name nm p1) [x] [] pos) (evI C (.rng1 a)) := by
  subst hnm
  refine (pi_range1 hg hm (pa_cons ha pa_nil (star_eq hp [] X.env)) (star_eq hp [] X.env)).imp fun σ H R ⟨av, Γ, ds, brs, Γ1, rl, e, q⟩ => ?_
  rw [evI] at e
  obtain ⟨⟨r, Γp⟩, e1, e⟩ := Option.bind_eq_some_iff.mp e
  simp only at e
  split at e
  · rename_i j
    split at e
    · rename_i hj
      cases e
      refine ⟨av, Γ, _, _, rl, e1, fun v H1 av1 P => ⟨_, by rw [vint P.vr], ?_, ?_, q _ _ _ ⟨⟨_, P.rel, P.fra, .refl⟩, walk_rng⟩⟩⟩
      · have := hj.1.1; omega
      · have := hj.1.2; omega
    · cases e
  · cases e
theorem si_rng2 {nm : Str} (hnm : nm = "range") (hg : Gl X nm) (hm : X.mg nm = none) (ha : SE T X x (ev C a)) (hb : SE T X y (ev C b)) (hp : plainE x = true) (hp2 : plainE y = true) : SI T X tg (.Call (.Name nm p1) [x, y] [] pos) (evI C (.rng2 a b)) := by
  subst hnm
  refine (pi_range2 hg hm (pa_cons ha (pa_cons hb pa_nil (star_eq hp2 [] X.env)) (star_eq hp _ X.env)) (by rw [star_eq hp, star_eq hp2]; rfl) (star_eq hp2 [] X.env)).imp fun σ H R ⟨av, Γ, ds, brs, Γ1, rl, e, q⟩ => ?_
  rw [evI] at e
  obtain ⟨⟨r, Γp⟩, e1, e⟩ := Option.bind_eq_some_iff.mp e
  obtain ⟨⟨r2, Γp2⟩, e2, e⟩ := Option.bind_eq_some_iff.mp e
  simp only at e
  split at e
  · split at e
    · rename_i hj
      cases e
      refine ⟨av, Γ, _, _, rl, e1, fun v H1 av1 P => ⟨av1, _, _, _, P.rel, e2, fun v2 H2 av2 P2 => ⟨_, _, by rw [vint P.vr, vint P2.vr], ?_, q _ _ _ ⟨⟨_, P2.rel, P.fra.trans rl P2.fra, .refl⟩, walk_rng⟩⟩⟩⟩
      obtain ⟨⟨h1, h2⟩, ⟨h3, h4⟩, _⟩ := hj
      refine ⟨?_, ?_, ?_, ?_⟩ <;> omega
    · cases e
  · cases e
theorem si_rng3 {nm : Str} {z : Expr} {c : E} (hnm : nm = "range") (hg : Gl X nm) (hm : X.mg nm = none) (ha : SE T X x (ev C a)) (hb : SE T X y (ev C b)) (hz : SE T X z (ev C c)) (hp : plainE x = true) (hp2 : plainE y = true) (hp3 : plainE z = true) : SI T X tg (.Call (.Name nm p1) [x, y, z] [] pos) (evI C (.rng3 a b c)) := by
  subst hnm
  refine (pi_range3 hg hm (pa_cons ha (pa_cons hb (pa_cons hz pa_nil (star_eq hp3 [] X.env)) (star_eq hp2 _ X.env)) (star_eq hp _ X.env)) (by rw [star_eq hp, star_eq hp2, star_eq hp3]; try rfl) (by rw [star_eq hp2, star_eq hp3]; try rfl)).imp fun σ H R ⟨av, Γ, ds, brs, Γ1, rl, e, q⟩ => ?_
  rw [evI] at e
  obtain ⟨⟨r, Γp⟩, e1, e⟩ := Option.bind_eq_some_iff.mp e
  obtain ⟨⟨r2, Γp2⟩, e2, e⟩ := Option.bind_eq_some_iff.mp e
  obtain ⟨⟨r3, Γp3⟩, e3, e⟩ := Option.bind_eq_some_iff.mp e
  simp only at e
  split at e
  · split at e
    · rename_i hj
      cases e
      obtain ⟨h1, h2, h3, h4, h5, h6⟩ := hj
      exact ⟨av, Γ, _, _, rl, e1, fun v H1 av1 P => ⟨av1, _, _, _, P.rel, e2, fun v2 H2 av2 P2 => ⟨av2, _, _, _, P2.rel, e3, fun v3 H3 av3 P3 => ⟨_, _, _, _, by rw [vint P.vr, vint P2.vr, vint P3.vr], rng3_ok h1 h2 h3 h4 h5 h6, q _ _ _ ⟨⟨_, P3.rel, (P.fra.trans rl P2.fra).trans rl P3.fra, .refl⟩, walk_rngC⟩⟩⟩⟩⟩
    · cases e
  · cases e
theorem si_zip {nm : Str} {elts : List Expr} {k : Nat} {tpos : Pos} (hnm : nm = "zip") (hg : Gl X nm) (hm : X.mg nm = none) (ha : SE T X x (ev C a)) (hb : SE T X y (ev C b)) (hp : plainE x = true) (hp2 : plainE y = true) : SI T X (.Tuple elts k tpos) (.Call (.Name nm p1) [x, y] [] pos) (evI C (.zip a b)) := by
  subst hnm
  refine (pi_z hg hm (pa_cons ha (pa_cons hb pa_nil (star_eq hp2 [] X.env)) (star_eq hp _ X.env)) (star_eq hp _ X.env) (stars_no (es := [y]) X.env pos (by rw [List.all_cons, hp2]; rfl))).imp fun σ H R ⟨av, Γ, ds, brs, Γ1, rl, e, q⟩ => ?_
  rw [evI] at e
  obtain ⟨⟨r, Γp⟩, e1, e⟩ := Option.bind_eq_some_iff.mp e
  obtain ⟨⟨r2, Γp2⟩, e2, e⟩ := Option.bind_eq_some_iff.mp e
  obtain ⟨dx, e3, e⟩ := Option.bind_eq_some_iff.mp e
  obtain ⟨dy, e4, e⟩ := Option.bind_eq_some_iff.mp e
  obtain ⟨xs, e5, e⟩ := Option.bind_eq_some_iff.mp e
  obtain ⟨ys, e6, e⟩ := Option.map_eq_some_iff.mp e
  cases e
  refine ⟨av, Γ, r, Γp, rl, e1, fun v H1 av1 P => ⟨av1, _, r2, Γp2, P.rel, e2, fun v2 H2 av2 P2 => ?_⟩⟩
  have l1 := lend_lent Γp2 r
  have l2 := lend_lent (lend Γp2 r).1 r2
  obtain ⟨p, us, rfl, s1⟩ := stay_of P2.rel (P.rep.fra P.rel P2.fra) e3 l2 e5
  obtain ⟨p', us', rfl, s2⟩ := stay_of (l1.rel P2.rel) (l1.rrep P2.rep) (by rw [look_lend]; exact e4) .refl e6
  have rl2 := l2.rel (l1.rel P2.rel)
  exact ⟨_, _, p, p', us, us', rfl, (s1.later rl2 Fra.refl).1, (s2.later rl2 Fra.refl).1, q _ _ _ ⟨⟨Γp2, P2.rel, P.fra.trans rl P2.fra, l1.trans l2⟩, walk_zip rl2 s1 s2⟩⟩
theorem si_enu {nm : Str} {elts : List Expr} {k : Nat} {tpos : Pos} (hnm : nm = "enumerate") (hg : Gl X nm) (hm : X.mg nm = none) (ha : SE T X x (ev C a)) (hp : plainE x = true) : SI T X (.Tuple elts k tpos) (.Call (.Name nm p1) [x] [] pos) (evI C (.enu a)) := by
  subst hnm
  refine (pi_e hg hm (pa_cons ha pa_nil (star_eq hp [] X.env)) (star_eq hp [] X.env)).imp fun σ H R ⟨av, Γ, ds, brs, Γ1, rl, e, q⟩ => ?_
  rw [evI] at e
  obtain ⟨⟨r, Γp⟩, e1, e⟩ := Option.bind_eq_some_iff.mp e
  obtain ⟨dx, e3, e⟩ := Option.bind_eq_some_iff.mp e
  obtain ⟨xs, e5, e⟩ := Option.map_eq_some_iff.mp e
  cases e
  refine ⟨av, Γ, r, Γp, rl, e1, fun v H1 av1 P => ?_⟩
  obtain ⟨p, us, rfl, s1⟩ := stay_of P.rel P.rep e3 .refl e5
  have rl2 := (lend_lent Γp r).rel P.rel
  exact ⟨_, p, us, rfl, (s1.later rl2 Fra.refl).1, q _ _ _ ⟨⟨Γp, P.rel, P.fra, lend_lent _ _⟩, walk_enu rl2 s1⟩⟩
theorem si_rev {nm : Str} (hnm : nm = "reversed") (hg : Gl X nm) (hm : X.mg nm = none) (ha : SE T X x (ev C a)) (hp : plainE x = true) : SI T X tg (.Call (.Name nm p1) [x] [] pos) (evI C (.rev a)) := by
  subst hnm
  refine (pi_reversed hg hm (pa_cons ha pa_nil (star_eq hp [] X.env)) (star_eq hp [] X.env)).imp fun σ H R ⟨av, Γ, ds, brs, Γ1, rl, e, q⟩ => ?_
  rw [evI] at e
  obtain ⟨⟨r, Γp⟩, e1, e⟩ := Option.bind_eq_some_iff.mp e
  obtain ⟨dx, e3, e⟩ := Option.bind_eq_some_iff.mp e
  obtain ⟨xs, e5, e⟩ := Option.map_eq_some_iff.mp e
  cases e
  refine ⟨av, Γ, r, Γp, rl, e1, fun v H1 av1 P => ?_⟩
  have e6 : items dx = some xs := by cases dx <;> first | exact e5 | cases e5
  obtain ⟨p, us, rfl, s1⟩ := stay_of P.rel P.rep e3 .refl e6
  have hk : isSq dx = true := by cases dx <;> first | rfl | cases e5
  rw [hk] at s1
  have rl2 := (lend_lent Γp r).rel P.rel
  exact ⟨p, us, rfl, (s1.later rl2 Fra.refl).1, q _ _ _ ⟨⟨Γp, P.rel, P.fra, lend_lent _ _⟩, walk_rev rl2 s1⟩⟩
end
end Mi

namespace Mi
open PySem PySem.Spec L2
open PyProof.Rows hiding St

/-! ## a, b, *rest = .. -/
section
variable {X : Cx} {pins : List (Addr × Obj)} {σ : St} {H : Hp} {s : Shared} {a : Addr} {xs : List V} {n : Nat} {Q : List Value → Shared → Prop} {E : Value → Shared → Prop}
/-- what is left behind the first n: a new list -/
theorem star_end {er : List Value → Sem (List Value)} (I : Inv X pins σ H s) (hc : X.calm = true) {its : List Value} {ty : String} {Sx : Nat → Heap → Prop} (rv : Vals xs its) (hn : n ≤ xs.length) (hz : xs.length ≤ 16384) {it : Addr} {s1 : Shared} (hit : s.heap.objs.size ≤ it)
    (k1 : ∀ b o, s.heap.get? b = some o → s1.heap.get? b = some o) (e1 : s1 = { s with heap := s1.heap }) (hty : ty = "str_ascii_iterator" ∨ ty = "str_iterator" ∨ ty = "list_iterator" ∨ ty = "tuple_iterator")
    (W : Walks X.prog X.w X.A.in1 it [it, a] [it] its.toArray.size (fun i v => its.toArray[i]? = some v) Sx) (hT : ∀ i (u : Shared), Sx i u.heap → u.TypeIs (.ref it) ty) (st : Sx n s1.heap) (li : it < s1.heap.objs.size) (la : a < s1.heap.objs.size)
    (h : ∀ us D s', Vals (xs.take n) us → Inv X pins σ (upd H D (.lst (xs.drop n))) s' → H D = none → Q (us ++ [.ref D]) s') :
    wpAny (model X.prog X.w) X.A (holding (its.take n) (collect (.ref it)) >>= fun rest => if rest.length < 0 then er rest else do
      let d ← newList (rest.take (rest.length - 0))
      pure (its.take n ++ [d] ++ rest.drop (rest.length - 0))) Q E s1 := by
  have hl := rv.length
  refine wpAny_bind (wpAny_holding (PySem.W.kun_collect (T := ty) hty W hT (k := n) (by rw [List.size_toArray]; omega) st li la (fun h2 tk k2 => ?_) (by rw [List.size_toArray, line_eq]; show its.length ≤ 16777216; omega)))
  rw [List.toList_toArray, if_neg (Nat.not_lt_zero _), Nat.sub_zero, List.take_length, List.drop_length]
  simp only [List.append_nil]
  have k3 : ∀ b o, s.heap.get? b = some o → h2.get? b = some o := fun b o e => k2 b o (Nat.ne_of_lt (Nat.lt_of_lt_of_le (Heap.lt_size e) hit)) (k1 b o e)
  have I2 : Inv X pins σ H { s with heap := h2, toks := tk } := I.kept k3
  have es : ({ s1 with heap := h2, toks := tk } : Shared) = { s with heap := h2, toks := tk } := by rw [e1]
  have hdl : (its.drop n).length ≤ sizeLine := by rw [List.length_drop, line_eq]; show _ ≤ 16777216; omega
  rw [show ({ heap := h2, gens := s1.gens, drawn := s1.drawn, toks := tk, os := s1.os } : Shared) = { s with heap := h2, toks := tk } from es]
  refine wpAny_bind (wpAny_newList (wpAny_pure ?_) hdl)
  exact h _ _ _ (rv.take n) (I2.lnew (rv.drop n) (by rw [(rv.drop n).length]; exact hdl)) (I2.hok.fresh (Nat.le_refl _))
theorem un_starL (I : Inv X pins σ H s) (hc : X.calm = true) (hq : SqL X.K H a xs) (hn : n ≤ xs.length) (hz : xs.length ≤ 16384)
    (h : ∀ us D s', Vals (xs.take n) us → Inv X pins σ (upd H D (.lst (xs.drop n))) s' → H D = none → Q (us ++ [.ref D]) s') : wpAny (model X.prog X.w) X.A (unpackItems (.ref a) (n + 1) (some n)) Q E s := by
  obtain ⟨its, rv, pl, _⟩ := I.list hq
  have li := pl.isList
  have hl := rv.length
  have la := pl.lt
  have ne : a ≠ s.heap.objs.size := Nat.ne_of_lt la
  unfold unpackItems notIterableAtAll
  refine wpAny_bind (wpAny_bind (wpAny_specialOf li.typeIs slot_list_iter.lookup (wpAny_pure ?_)))
  rw [if_neg (by decide)]
  refine wpAny_bind (wpAny_holding (wpAny_pyIter_list li ?_))
  refine wpAny_bind (wpAny_holding (PySem.W.kun_draw ne n 0 _ _ ⟨_, Heap.get?_push_size _ rfl, rfl, rfl⟩ (li.push _) (by rw [List.size_toArray]; omega) fun h1 i1 sb => ?_))
  have l1 : h1.IsList a its.toArray := (li.push _).extBut sb.extBut ne
  rw [Nat.zero_add] at i1
  rw [List.drop_zero, List.toList_toArray, if_neg (by rw [List.length_take]; omega)]
  have hend : n + 1 - 1 - n = 0 := by omega
  rw [hend]
  have k1 : ∀ b o, s.heap.get? b = some o → h1.get? b = some o := fun b o e => sb.extBut b o (Nat.ne_of_lt (Heap.lt_size e)) (Heap.get?_push_of_some _ e)
  obtain ⟨o1, g1, _⟩ := id i1
  obtain ⟨o2, g2, _⟩ := id l1
  exact star_end (s1 := { s with heap := h1 }) I hc rv hn hz (Nat.le_refl _) k1 rfl (.inr (.inr (.inl rfl))) (Walks.list (A := X.A.in1) (I.ok.hd hc) s.heap.objs.size a ne its.toArray) (fun j u st => st.1.typeIs) ⟨i1, l1⟩ (Heap.lt_size g1) (Heap.lt_size g2) h
theorem un_starT (I : Inv X pins σ H s) (hc : X.calm = true) (hq : SqT X.K H a xs) (hn : n ≤ xs.length) (hz : xs.length ≤ 16384)
    (h : ∀ us D s', Vals (xs.take n) us → Inv X pins σ (upd H D (.lst (xs.drop n))) s' → H D = none → Q (us ++ [.ref D]) s') : wpAny (model X.prog X.w) X.A (unpackItems (.ref a) (n + 1) (some n)) Q E s := by
  obtain ⟨its, rv, tp, _⟩ := I.tuple hq
  have hl := rv.length
  have la := tp.lt
  have ne : a ≠ s.heap.objs.size := Nat.ne_of_lt la
  unfold unpackItems notIterableAtAll
  refine wpAny_bind (wpAny_bind (wpAny_specialOf tp.typeIs slot_tuple_iter.lookup (wpAny_pure ?_)))
  rw [if_neg (by decide)]
  refine wpAny_bind (wpAny_holding (iter_tuple tp ?_))
  refine wpAny_bind (wpAny_holding (draw_tuple ne n 0 _ _ ⟨_, Heap.get?_push_size _ rfl, rfl, rfl⟩ (tp.push _) (by rw [List.size_toArray]; omega) fun h1 i1 sb => ?_))
  have l1 : IsTup h1 a its.toArray := (tp.push _).extBut sb.extBut ne
  rw [Nat.zero_add] at i1
  rw [List.drop_zero, List.toList_toArray, if_neg (by rw [List.length_take]; omega)]
  have hend : n + 1 - 1 - n = 0 := by omega
  rw [hend]
  have k1 : ∀ b o, s.heap.get? b = some o → h1.get? b = some o := fun b o e => sb.extBut b o (Nat.ne_of_lt (Heap.lt_size e)) (Heap.get?_push_of_some _ e)
  obtain ⟨o1, g1, _⟩ := id i1
  obtain ⟨o2, g2, _⟩ := id l1
  exact star_end (s1 := { s with heap := h1 }) I hc rv hn hz (Nat.le_refl _) k1 rfl (.inr (.inr (.inr rfl))) (Walks.tuple (A := X.A.in1) (I.ok.hd hc) s.heap.objs.size a ne its.toArray) (fun j u st => st.1.typeIs) ⟨i1, l1⟩ (Heap.lt_size g1) (Heap.lt_size g2) h
end
end Mi

namespace Mi
open PySem PySem.Spec L2
open PyProof.Rows hiding St

/-! ## names are stored -/
section
variable {T : Cls2} {K : PySem.W.Frag} {H H' H0 H1 H2 : Hp} {av av' av0 av1 av2 : Av} {Γ Γ' Γ0 Γ1 Γ2 : G} {σ σ' σ0 σ1 σ2 : St} {v : V} {e : En} {i : Nat}
theorem set_held {j : Nat} {a : Addr} (h : HeldAt (Γ.set i e) (σ.set i (some v)) j a) : (j = i ∧ v = .ref a ∧ (IsOwn (some e) ∨ IsBor (some e))) ∨ (j ≠ i ∧ HeldAt Γ σ j a) := by
  have hl : ∀ {P : Option En → Prop}, P (Γ.set i e)[j]? → (σ.set i (some v))[j]? = some (some (V.ref a)) → (¬ P none) → (j = i ∧ v = .ref a ∧ P (some e)) ∨ (j ≠ i ∧ P Γ[j]? ∧ σ[j]? = some (some (V.ref a))) := fun {P} h1 h2 hn => by
    by_cases hj : i = j
    · subst hj
      left
      by_cases hi : i < Γ.length
      · rw [List.getElem?_set_self hi] at h1
        by_cases hs : i < σ.length
        · rw [List.getElem?_set_self hs] at h2
          cases h2
          exact ⟨rfl, rfl, h1⟩
        · rw [List.getElem?_eq_none (by rw [List.length_set]; omega)] at h2; cases h2
      · rw [List.getElem?_eq_none (by rw [List.length_set]; omega)] at h1; exact (hn h1).elim
    · right
      rw [List.getElem?_set_ne hj] at h1 h2
      exact ⟨fun z => hj z.symm, h1, h2⟩
  rcases h with ⟨h1, h2⟩ | ⟨h1, h2⟩
  · rcases hl h1 h2 id with ⟨a1, a2, a3⟩ | ⟨a1, a2, a3⟩
    · exact .inl ⟨a1, a2, .inl a3⟩
    · exact .inr ⟨a1, .inl ⟨a2, a3⟩⟩
  · rcases hl h1 h2 id with ⟨a1, a2, a3⟩ | ⟨a1, a2, a3⟩
    · exact .inl ⟨a1, a2, .inr a3⟩
    · exact .inr ⟨a1, .inr ⟨a2, a3⟩⟩
theorem set_ownAt {j : Nat} {a : Addr} (h : OwnAt (Γ.set i e) (σ.set i (some v)) j a) : (j = i ∧ v = .ref a ∧ IsOwn (some e)) ∨ (j ≠ i ∧ OwnAt Γ σ j a) := by
  obtain ⟨h1, h2⟩ := h
  by_cases hj : i = j
  · subst hj
    left
    by_cases hi : i < Γ.length
    · rw [List.getElem?_set_self hi] at h1
      by_cases hs : i < σ.length
      · rw [List.getElem?_set_self hs] at h2
        cases h2
        exact ⟨rfl, rfl, h1⟩
      · rw [List.getElem?_eq_none (by rw [List.length_set]; omega)] at h2; cases h2
    · rw [List.getElem?_eq_none (by rw [List.length_set]; omega)] at h1; exact h1.elim
  · right
    rw [List.getElem?_set_ne hj] at h1 h2
    exact ⟨fun z => hj z.symm, h1, h2⟩
theorem set_borAt {j : Nat} {a : Addr} (h : BorAt (Γ.set i e) (σ.set i (some v)) j a) : (j = i ∧ v = .ref a ∧ IsBor (some e)) ∨ (j ≠ i ∧ BorAt Γ σ j a) := by
  obtain ⟨h1, h2⟩ := h
  by_cases hj : i = j
  · subst hj
    left
    by_cases hi : i < Γ.length
    · rw [List.getElem?_set_self hi] at h1
      by_cases hs : i < σ.length
      · rw [List.getElem?_set_self hs] at h2
        cases h2
        exact ⟨rfl, rfl, h1⟩
      · rw [List.getElem?_eq_none (by rw [List.length_set]; omega)] at h2; cases h2
    · rw [List.getElem?_eq_none (by rw [List.length_set]; omega)] at h1; exact h1.elim
  · right
    rw [List.getElem?_set_ne hj] at h1 h2
    exact ⟨fun z => hj z.symm, h1, h2⟩
theorem Rel.set (rl : Rel T K av Γ σ H) (hi : i < Γ.length) (he : ERep T K H av e (some (some v))) (nb : ¬ IsBor (some e)) (nh : ∀ p, v = .ref p → IsOwn (some e) → ¬ Held Γ σ p) : Rel T K av (Γ.set i e) (σ.set i (some v)) H := by
  have hs : i < σ.length := by rw [← rl.len]; exact hi
  refine ⟨by rw [List.length_set, List.length_set]; exact rl.len, fun j e' h => ?_, fun j k p h1 h2 h3 h4 => ?_, rl.trk⟩
  · by_cases hj : i = j
    · subst hj
      rw [List.getElem?_set_self hi] at h
      cases h
      rw [List.getElem?_set_self hs]
      exact he
    · rw [List.getElem?_set_ne hj] at h ⊢
      exact rl.ent j e' h
  · have hk : HeldAt (Γ.set i e) (σ.set i (some v)) k p := h2.elim (fun z => .inl ⟨z, h4⟩) fun z => .inr ⟨z, h4⟩
    rcases set_ownAt ⟨h1, h3⟩ with ⟨a1, a2, a3⟩ | ⟨a1, a2⟩
    · rcases set_held hk with ⟨b1, b2, b3⟩ | ⟨b1, b2⟩
      · rw [a1, b1]
      · exact (nh p a2 a3 ⟨k, b2⟩).elim
    · rcases set_held hk with ⟨b1, b2, b3⟩ | ⟨b1, b2⟩
      · rcases b3 with b3 | b3
        · exact (nh p b2 b3 ⟨j, .inl a2⟩).elim
        · exact (nb b3).elim
      · exact rl.inj' a2 b2
theorem Fra.set (f : Fra σ0 Γ0 av0 H0 σ Γ av H) (nb : ¬ IsBor (some e)) (no : ∀ p, v = .ref p → IsOwn (some e) → H0 p = none) : Fra σ0 Γ0 av0 H0 (σ.set i (some v)) (Γ.set i e) av H := by
  refine ⟨f.keep, f.thr, f.av1, f.av2, fun j a h => ?_, fun j a h => ?_⟩
  · rcases set_ownAt h with ⟨a1, a2, a3⟩ | ⟨a1, a2⟩
    · exact .inr (no a a2 a3)
    · exact f.own j a a2
  · rcases set_borAt h with ⟨a1, a2, a3⟩ | ⟨a1, a2⟩
    · exact (nb a3).elim
    · exact f.bor j a a2
end
/-! ## targets -/
mutual
def Tg.slots : Tg → List Nat
  | .nm i => [i]
  | .tup ts => slotsL ts
  | .star pre i => pre ++ [i]
def slotsL : List Tg → List Nat
  | [] => []
  | t :: ts => t.slots ++ slotsL ts
end
structure PostG (T : Cls2) (K : PySem.W.Frag) (sl : List Nat) (σ : St) (av : Av) (Γ : G) (H : Hp) (σ' : St) (Γ' : G) (H' : Hp) (av' : Av) : Prop where
  rel : Rel T K av' Γ' σ' H'
  fra : Fra σ Γ av H σ' Γ' av' H'
  dif : ∀ i : Nat, i ∉ sl → σ'[i]? = σ[i]?
theorem PostG.trans {T : Cls2} {K : PySem.W.Frag} {sl sl2 : List Nat} {σ σ1 σ2 : St} {av av1 av2 : Av} {Γ Γ1 Γ2 : G} {H H1 H2 : Hp} (rl : Rel T K av Γ σ H) (a : PostG T K sl σ av Γ H σ1 Γ1 H1 av1) (b : PostG T K sl2 σ1 av1 Γ1 H1 σ2 Γ2 H2 av2) : PostG T K (sl ++ sl2) σ av Γ H σ2 Γ2 H2 av2 :=
  ⟨b.rel, a.fra.trans rl b.fra, fun i h => (b.dif i fun z => h (List.mem_append_right _ z)).trans (a.dif i fun z => h (List.mem_append_left _ z))⟩
def tG (T : Cls2) (K : PySem.W.Frag) (w : Bool) (sl : List Nat) (f : D → G → Option G) : TG := fun v σ H Q => ∃ av Γ d Γ', Rel T K av Γ σ H ∧ PRep T K w H av d v ∧ f d Γ = some Γ' ∧ ∀ σ' H' av', PostG T K sl σ av Γ H σ' Γ' H' av' → Q σ' H'
def tGs (T : Cls2) (K : PySem.W.Frag) (sl : List Nat) (f : List D → G → Option G) : TGs := fun vs σ H Q => ∃ av Γ ds Γ', Rel T K av Γ σ H ∧ Reps T K H av ds vs ∧ f ds Γ = some Γ' ∧ ∀ σ' H' av', PostG T K sl σ av Γ H σ' Γ' H' av' → Q σ' H'
theorem _root_.L2.PG.imp {X : Cx} {e : Expr} {t t' : TG} (h : PG X e t) (k : ∀ v σ H Q, t' v σ H Q → t v σ H Q) : PG X e t' := ⟨fun pins s σ H v u Q I r q => h.run pins s σ H v u Q I r (k v σ H Q q)⟩
theorem _root_.L2.PGs.imp {X : Cx} {e : List Expr} {t t' : TGs} (h : PGs X e t) (k : ∀ v σ H Q, t' v σ H Q → t v σ H Q) : PGs X e t' := ⟨fun pins s σ H v u Q I r q => h.run pins s σ H v u Q I r (k v σ H Q q)⟩
abbrev SG (T : Cls2) (X : Cx) (e : Expr) (sl : List Nat) (f : D → G → Option G) : Prop := PG X e (tG T X.K (isTup e) sl f)
abbrev SGs (T : Cls2) (X : Cx) (e : List Expr) (sl : List Nat) (f : List D → G → Option G) : Prop := PGs X e (tGs T X.K sl f)
theorem eachPlain {es : List Expr} {env : Env} (h : es.all plainE = true) : (assignEach es env).length = es.length ∧ (assignEach es env).findIdx? (·.1) = none ∧ (assignEach es env).map (·.2) = es.map fun e => assign e env := by
  induction es with
  | nil => exact ⟨rfl, rfl, rfl⟩
  | cons e es ih =>
    rw [List.all_cons, Bool.and_eq_true] at h
    obtain ⟨h1, h2, h3⟩ := ih h.2
    have e1 : assignEach (e :: es) env = (false, assign e env) :: assignEach es env := by
      have := h.1
      cases e <;> first | rfl | cases this
    rw [e1]
    refine ⟨by rw [List.length_cons, List.length_cons, h1], ?_, by rw [List.map_cons, List.map_cons, h3]⟩
    rw [List.findIdx?_cons, h2]
    rfl
theorem eachCons {e : Expr} {es : List Expr} {env : Env} (h : plainE e = true) : (assignEach (e :: es) env).map (·.2) = assign e env :: (assignEach es env).map (·.2) := by
  cases e <;> first | rfl | cases h
section
variable {X : Cx} {T : Cls2} {C : Ctx} {pos p1 : Pos} {x y z tg : Expr} {a b c : E}
theorem put_dif {σ : St} {v : V} {i : Nat} : ∀ j : Nat, j ∉ [i] → (σ.set i (some v))[j]? = σ[j]? := fun j h => by
  rw [List.getElem?_set_ne fun z => h (by rw [z]; exact List.mem_singleton.mpr rfl)]
theorem sg_nm {i : Nat} {n : Str} (hN : X.N.Nodup) (hi : X.N[i]? = some n) (hx : Loc X.env.scope n) (hf : X.fn n = true ∨ X.env.scope.names.lookup n = some .local) : SG T X (.Name n pos) [i] (put (.nm i)) := by
  refine (pg_name hN hi hx hf).imp fun v σ H Q ⟨av, Γ, d, Γ', rl, rp, e, q⟩ => ?_
  rw [put] at e
  split at e
  · rename_i hl
    cases e
    exact q _ H av ⟨rl.set hl ⟨v, rfl, rp⟩ id fun _ _ z => z.elim, Fra.refl.set id fun _ _ z => z.elim, put_dif⟩
  · cases e
theorem sgs_nil : SGs T X [] [] (puts []) := by
  refine pgs_nil.imp fun vs σ H Q ⟨av, Γ, ds, Γ', rl, rp, e, q⟩ => ?_
  cases ds with
  | nil => rw [puts] at e; cases e; exact ⟨rp.nil_inv, q _ _ _ ⟨rl, Fra.refl, fun _ _ => rfl⟩⟩
  | cons _ _ => rw [puts] at e; cases e; all_goals simp
theorem sgs_cons {t : Tg} {ts : List Tg} {es : List Expr} {sl sl2 : List Nat} (h1 : SG T X x sl (put t)) (h2 : SGs T X es sl2 (puts ts)) (hp : plainE x = true) : SGs T X (x :: es) (sl ++ sl2) (puts (t :: ts)) := by
  refine (pgs_cons h1 h2 (eachCons hp)).imp fun vs σ H Q ⟨av, Γ, ds, Γ', rl, rp, e, q⟩ => ?_
  cases ds with
  | nil => rw [puts] at e; cases e; all_goals simp
  | cons d ds =>
    rw [puts] at e
    obtain ⟨Γ1, e1, e⟩ := Option.bind_eq_some_iff.mp e
    obtain ⟨v, r, rfl, r1, r2⟩ := rp.cons_inv
    exact ⟨v, r, rfl, av, Γ, d, Γ1, rl, r1.prep, e1, fun σ1 H1 av1 P => ⟨av1, Γ1, ds, Γ', P.rel, r2.kp (P.fra.kp rl), e, fun σ2 H2 av2 P2 => q _ _ _ (P.trans rl P2)⟩⟩
theorem puts_len : ∀ {ts : List Tg} {ds : List D} {Γ Γ' : G}, puts ts ds Γ = some Γ' → ds.length = ts.length
  | [], [], _, _, _ => rfl
  | [], _ :: _, _, _, e => by rw [puts] at e; cases e; all_goals simp
  | _ :: _, [], _, _, e => by rw [puts] at e; cases e; all_goals simp
  | t :: ts, d :: ds, Γ, Γ', e => by
    rw [puts] at e
    obtain ⟨Γ1, e1, e⟩ := Option.bind_eq_some_iff.mp e
    rw [List.length_cons, List.length_cons, puts_len e]
theorem sg_tup {ts : List Tg} {es : List Expr} {k : Nat} {sl : List Nat} (hc : X.calm = true) (h : SGs T X es sl (puts ts)) (hp : es.all plainE = true) (hl : es.length = ts.length) : SG T X (.Tuple es k pos) sl (put (.tup ts)) := by
  obtain ⟨h1, h2, _⟩ := eachPlain (env := X.env) hp
  refine ⟨fun pins s σ H v u Q I r ⟨av, Γ, d, Γ', rl, rp, e, q⟩ => ?_⟩
  cases d with
  | tup ds =>
    rw [put] at e
    obtain ⟨p, xs, rfl, r1, r2⟩ := (show WRep T X.K H av (.tup ds) v from rp.w)
    exact (pg_tup hc h h1 h2).run pins s σ H _ u Q I r ⟨p, xs, rfl, r1, by rw [← r2.length, puts_len e, hl], av, Γ, ds, Γ', rl, r2, e, q⟩
  | lst ds =>
    rw [put] at e
    have rp := (show Rep T X.K H av (.lst ds) v from rp.w)
    unfold Rep at rp
    obtain ⟨p, xs, rfl, r1, _, r2⟩ := rp
    exact (pg_unl hc h h1 h2).run pins s σ H _ u Q I r ⟨p, xs, rfl, SqL.of r1, by rw [← r2.length, puts_len e, hl], av, Γ, ds, Γ', rl, r2, e, q⟩
  | _ => rw [put] at e; cases e; all_goals simp
end
end Mi

namespace Mi
open PySem PySem.Spec L2
open PyProof.Rows hiding St

/-! ## a, *rest = .. -/
/-- names stand at these slots -/
inductive NmAt (X : Cx) : List Expr → List Nat → Prop
  | nil : NmAt X [] []
  | cons {n : Str} {p : Pos} {i : Nat} {es : List Expr} {is : List Nat} (hi : X.N[i]? = some n) (hx : Loc X.env.scope n) (hf : X.fn n = true ∨ X.env.scope.names.lookup n = some .local) (t : NmAt X es is) : NmAt X (.Name n p :: es) (i :: is)
theorem starEachEq {es : List Expr} {x : Expr} {sp : Pos} {env : Env} (h : es.all plainE = true) : (assignEach (es ++ [.Starred x sp]) env).length = es.length + 1 ∧ (assignEach (es ++ [.Starred x sp]) env).findIdx? (·.1) = some es.length ∧ (assignEach (es ++ [.Starred x sp]) env).map (·.2) = es.map (fun e => assign e env) ++ [assign x env] := by
  induction es with
  | nil => exact ⟨rfl, rfl, rfl⟩
  | cons e es ih =>
    rw [List.all_cons, Bool.and_eq_true] at h
    obtain ⟨h1, h2, h3⟩ := ih h.2
    have e1 : assignEach (e :: es ++ [.Starred x sp]) env = (false, assign e env) :: assignEach (es ++ [.Starred x sp]) env := by
      have := h.1
      cases e <;> first | rfl | cases this
    rw [e1]
    refine ⟨by rw [List.length_cons, List.length_cons, h1], ?_, by rw [List.map_cons, List.map_cons, h3]; rfl⟩
    rw [List.findIdx?_cons, h2]
    rfl
section
variable {X : Cx} {T : Cls2} {C : Ctx} {pos p1 : Pos} {x y z tg : Expr} {a b c : E}
theorem NmAt.plain {es : List Expr} {is : List Nat} (h : NmAt X es is) : es.all plainE = true := by
  induction h with
  | nil => rfl
  | cons _ _ _ _ ih => rw [List.all_cons, ih]; rfl
theorem NmAt.length {es : List Expr} {is : List Nat} (h : NmAt X es is) : es.length = is.length := by
  induction h with
  | nil => rfl
  | cons _ _ _ _ ih => rw [List.length_cons, List.length_cons, ih]
theorem putn_len : ∀ {is : List Nat} {ds : List D} {Γ Γ' : G}, putn is ds Γ = some Γ' → ds.length = is.length ∧ Γ'.length = Γ.length
  | [], [], _, _, e => by rw [putn] at e; cases e; exact ⟨rfl, rfl⟩
  | [], _ :: _, _, _, e => by rw [putn] at e; cases e; all_goals simp
  | _ :: _, [], _, _, e => by rw [putn] at e; cases e; all_goals simp
  | i :: is, d :: ds, Γ, Γ', e => by
    rw [putn] at e
    split at e
    · obtain ⟨h1, h2⟩ := putn_len e
      exact ⟨by rw [List.length_cons, List.length_cons, h1], by rw [h2, List.length_set]⟩
    · cases e
/-- the stores, one behind another: names, then what is left -/
theorem star_stores (hN : X.N.Nodup) {es : List Expr} {is : List Nat} (h : NmAt X es is) {n : Str} {np : Pos} {i : Nat} (hi : X.N[i]? = some n) (hx : Loc X.env.scope n) (hf : X.fn n = true ∨ X.env.scope.names.lookup n = some .local)
    {pins : List (Addr × Obj)} {σ0 : St} {av0 : Av} {Γ0 : G} {H0 : Hp} {Q : St → Hp → Prop} {p : Addr} {o : OD} :
    ∀ {s : Shared} {σ : St} {H : Hp} {av : Av} {Γ Γ1 : G} {ds : List D} {vs : List V} {us : List Value} {sl : List Nat}, Inv X pins σ H s → Vals vs us → Reps T X.K H av ds vs → PostG T X.K sl σ0 av0 Γ0 H0 σ Γ H av → putn is ds Γ = some Γ1 → ORep T X.K H av o p → av p → ¬ Held Γ σ p → H0 p = none → i < Γ.length →
      (∀ σ' H' av', PostG T X.K (sl ++ (is ++ [i])) σ0 av0 Γ0 H0 σ' (Γ1.set i (.own o)) H' av' → Q σ' H') →
      wpAny (model X.prog X.w) X.A (assignInOrder (es.map (fun e => assign e X.env) ++ [assign (.Name n np) X.env]) (us ++ [.ref p])) (fun _ s' => ∃ σ' H', Inv X pins σ' H' s' ∧ Q σ' H') X.xe s := by
  induction h with
  | nil =>
    intro s σ H av Γ Γ1 ds vs us sl I rv rp P e ho hav hnh hp0 hl q
    cases ds with
    | cons _ _ => rw [putn] at e; cases e; all_goals simp
    | nil =>
      rw [putn] at e
      cases e
      cases rp.nil_inv
      cases rv
      refine assignInOrder_cons ((pg_name (pos := np) hN hi hx hf).run pins s σ H (.ref p) (.ref p) (fun σ' H' => σ' = σ.set i (some (.ref p)) ∧ H' = H) I rfl ⟨rfl, rfl⟩ |> fun z => thn z fun _ s1 ⟨σ1, H1, I1, e1, e2⟩ => assignInOrder_nil ?_)
      subst e1 e2
      refine ⟨_, _, I1, q _ _ av ⟨P.rel.set hl ⟨p, rfl, hav, ho⟩ id fun p' ep _ => by cases ep; exact hnh, P.fra.set id fun p' ep _ => by cases ep; exact hp0, fun j hj => ?_⟩⟩
      rw [List.getElem?_set_ne fun z => hj (by rw [← z]; simp)]
      exact P.dif j fun z => hj (List.mem_append_left _ z)
  | @cons m mp j es is hj hjx hjf t ih =>
    intro s σ H av Γ Γ1 ds vs us sl I rv rp P e ho hav hnh hp0 hl q
    cases ds with
    | nil => rw [putn] at e; cases e; all_goals simp
    | cons d ds =>
      rw [putn] at e
      split at e
      · rename_i hjl
        obtain ⟨v, r, rfl, r1, r2⟩ := rp.cons_inv
        cases rv with
        | cons rv1 rv2 =>
          refine assignInOrder_cons ((pg_name (pos := mp) hN hj hjx hjf).run pins s σ H v _ (fun σ' H' => σ' = σ.set j (some v) ∧ H' = H) I rv1 ⟨rfl, rfl⟩ |> fun z => thn z fun _ s1 ⟨σ1, H1, I1, e1, e2⟩ => ?_)
          subst e1 e2
          have P' : PostG T X.K (sl ++ [j]) σ0 av0 Γ0 H0 (σ.set j (some v)) (Γ.set j (.val d)) H1 av := ⟨P.rel.set hjl ⟨v, rfl, r1⟩ id fun _ _ z => z.elim, P.fra.set id fun _ _ z => z.elim, fun k hk => by
            rw [List.getElem?_set_ne fun z => hk (by rw [← z]; simp)]
            exact P.dif k fun z => hk (List.mem_append_left _ z)⟩
          refine ih I1 rv2 r2 P' e ho hav (fun ⟨k, z⟩ => ?_) hp0 (by rw [List.length_set]; exact hl) fun σ' H' av' P'' => q σ' H' av' ?_
          · rcases set_held z with ⟨_, _, w⟩ | ⟨_, w⟩
            · exact w.elim id id
            · exact hnh ⟨k, w⟩
          · rw [List.append_assoc] at P''
            exact P''
      · cases e
theorem sg_star (hc : X.calm = true) (hN : X.N.Nodup) {es : List Expr} {is : List Nat} (h : NmAt X es is) {n : Str} {np sp : Pos} {i k : Nat} (hi : X.N[i]? = some n) (hx : Loc X.env.scope n) (hf : X.fn n = true ∨ X.env.scope.names.lookup n = some .local) :
    SG T X (.Tuple (es ++ [.Starred (.Name n np) sp]) k pos) (is ++ [i]) (put (.star is i)) := by
  obtain ⟨h1, h2, h3⟩ := starEachEq (x := .Name n np) (sp := sp) (env := X.env) h.plain
  refine ⟨fun pins s σ H v u Q I r ⟨av, Γ, d, Γ', rl, rp, e, q⟩ => ?_⟩
  -- what is unpacked
  obtain ⟨ad, xs, ds, kk, rfl, hq, hr, e1, e2, e3, Γ1, e4, e5⟩ : ∃ (ad : Addr) (xs : List V) (ds : List D) (kk : Bool), v = .ref ad ∧ Sq kk X.K H ad xs ∧ Reps T X.K H av ds xs ∧ is.length ≤ ds.length ∧ ds.length ≤ 16384 ∧ i < Γ.length ∧ ∃ Γ1, putn is (ds.take is.length) Γ = some Γ1 ∧ Γ' = Γ1.set i (.own (.lst (ds.drop is.length))) := by
    cases d with
    | tup ds =>
      rw [put] at e
      obtain ⟨p, xs, rfl, r1, r2⟩ := (show WRep T X.K H av (.tup ds) v from rp.w)
      split at e
      · rename_i hl
        obtain ⟨Γ1, g1, g2⟩ := Option.map_eq_some_iff.mp e
        exact ⟨p, xs, ds, false, rfl, r1, r2, hl.1, hl.2.1, hl.2.2, Γ1, g1, g2.symm⟩
      · cases e
    | lst ds =>
      rw [put] at e
      have rp := (show Rep T X.K H av (.lst ds) v from rp.w)
      unfold Rep at rp
      obtain ⟨p, xs, rfl, r1, _, r2⟩ := rp
      split at e
      · rename_i hl
        obtain ⟨Γ1, g1, g2⟩ := Option.map_eq_some_iff.mp e
        exact ⟨p, xs, ds, true, rfl, SqL.of r1, r2, hl.1, hl.2.1, hl.2.2, Γ1, g1, g2.symm⟩
      · cases e
    | _ => rw [put] at e; cases e; all_goals simp
  subst e5
  cases (show u = Value.ref ad from r)
  rw [assign_Tuple]
  refine wpAny_bind (wpAny_standAt ?_)
  unfold unpack
  rw [h1, h2, h3, h.length]
  have hl := hr.length
  have fin : ∀ us D s', Vals (xs.take is.length) us → Inv X pins σ (upd H D (.lst (xs.drop is.length))) s' → H D = none →
      wpAny (model X.prog X.w) X.A (assignInOrder (es.map (fun e => assign e X.env) ++ [assign (.Name n np) X.env]) (us ++ [.ref D])) (fun _ s' => ∃ σ' H', Inv X pins σ' H' s' ∧ Q σ' H') X.xe s' := fun us D s' rv I' hD => by
    have f := alloc_fra (σ := σ) (Γ := Γ) (av := av) (u := .lst (xs.drop is.length)) hD true
    have kp := f.kp rl
    refine star_stores (T := T) hN h hi hx hf (sl := []) I' rv ((hr.take _).kp kp) (⟨alloc_rel rl hD true, f, fun _ _ => rfl⟩ : PostG T X.K [] σ av Γ H σ Γ _ _) e4 (o := .lst (ds.drop is.length)) ⟨_, upd_same, (hr.drop _).kp kp⟩ (.inr ⟨rfl, rfl⟩) (fun z => ?_) hD e3 fun σ' H' av' P => q σ' H' av' P
    obtain ⟨_, u, hu, _⟩ := rl.held z
    rw [hD] at hu
    cases hu
  refine wpAny_bind (wpAny_holding ?_)
  cases kk with
  | true => exact un_starL I hc hq (by omega) (by omega) fin
  | false => exact un_starT I hc hq (by omega) (by omega) fin
end
end Mi

namespace Mi
open PySem PySem.Spec L2
open PyProof.Rows hiding St

/-! ## list comprehensions -/
theorem wipeG_len (Γ : G) : ∀ is : List Nat, (wipeG Γ is).length = Γ.length
  | [] => rfl
  | i :: is => by unfold wipeG; rw [List.length_set, wipeG_len Γ is]
theorem wipeG_in {Γ : G} {i : Nat} {e : En} : ∀ {is : List Nat}, (wipeG Γ is)[i]? = some e → (i ∈ is ∧ e = .un) ∨ (i ∉ is ∧ Γ[i]? = some e)
  | [], h => .inr ⟨by simp, h⟩
  | j :: is, h => by
    unfold wipeG at h
    by_cases hj : j = i
    · subst hj
      by_cases hl : j < (wipeG Γ is).length
      · rw [List.getElem?_set_self hl] at h
        cases h
        exact .inl ⟨List.mem_cons_self, rfl⟩
      · rw [List.getElem?_eq_none (by rw [List.length_set]; omega)] at h; cases h
    · rw [List.getElem?_set_ne hj] at h
      rcases wipeG_in h with ⟨h1, h2⟩ | ⟨h1, h2⟩
      · exact .inl ⟨List.mem_cons_of_mem _ h1, h2⟩
      · exact .inr ⟨fun z => (List.mem_cons.mp z).elim (fun q => hj q.symm) h1, h2⟩
theorem wipe_out {σ : St} {i : Nat} : ∀ {is : List Nat}, i ∉ is → (wipe σ is)[i]? = σ[i]?
  | [], _ => rfl
  | j :: is, h => by
    unfold wipe
    rw [List.getElem?_set_ne fun z => h (by rw [z]; exact List.mem_cons_self)]
    exact wipe_out fun z => h (List.mem_cons_of_mem _ z)
theorem wipe_in {σ : St} {i : Nat} : ∀ {is : List Nat}, i ∈ is → i < σ.length → (wipe σ is)[i]? = some none
  | j :: is, h, hl => by
    unfold wipe
    by_cases hj : j = i
    · subst hj
      rw [List.getElem?_set_self (by rw [wipe_length]; exact hl)]
    · rw [List.getElem?_set_ne hj]
      exact wipe_in ((List.mem_cons.mp h).resolve_left fun z => hj z.symm) hl
theorem wipe_eq {σ σ' : St} {is : List Nat} (hl : σ'.length = σ.length) (h : ∀ i : Nat, i ∉ is → σ'[i]? = σ[i]?) : wipe σ' is = wipe σ is := by
  apply List.ext_getElem?
  intro i
  by_cases hi : i ∈ is
  · by_cases hn : i < σ.length
    · rw [wipe_in hi hn, wipe_in hi (by omega)]
    · rw [List.getElem?_eq_none (by rw [wipe_length]; omega), List.getElem?_eq_none (by rw [wipe_length]; omega)]
  · rw [wipe_out hi, wipe_out hi]
    exact h i hi
theorem restG_len (old Γ : G) : ∀ is : List Nat, (restG old Γ is).length = Γ.length
  | [] => rfl
  | i :: is => by
    unfold restG
    split
    · rw [List.length_set, restG_len old Γ is]
    · exact restG_len old Γ is
theorem restG_in {old Γ : G} {i : Nat} {e : En} (hl : old.length = Γ.length) : ∀ {is : List Nat}, (restG old Γ is)[i]? = some e → (i ∈ is ∧ old[i]? = some e) ∨ (i ∉ is ∧ Γ[i]? = some e)
  | [], h => .inr ⟨by simp, h⟩
  | j :: is, h => by
    unfold restG at h
    split at h
    · rename_i e0 he0
      by_cases hj : j = i
      · subst hj
        rw [List.getElem?_set_self (by rw [restG_len, ← hl]; exact (List.getElem?_eq_some_iff.mp he0).1)] at h
        cases h
        exact .inl ⟨List.mem_cons_self, he0⟩
      · rw [List.getElem?_set_ne hj] at h
        rcases restG_in hl h with ⟨h1, h2⟩ | ⟨h1, h2⟩
        · exact .inl ⟨List.mem_cons_of_mem _ h1, h2⟩
        · exact .inr ⟨fun z => (List.mem_cons.mp z).elim (fun q => hj q.symm) h1, h2⟩
    · rename_i hn
      rcases restG_in hl h with ⟨h1, h2⟩ | ⟨h1, h2⟩
      · exact .inl ⟨List.mem_cons_of_mem _ h1, h2⟩
      · refine .inr ⟨fun z => (List.mem_cons.mp z).elim (fun q => ?_) h1, h2⟩
        subst q
        have := (List.getElem?_eq_some_iff.mp h2).1
        rw [List.getElem?_eq_none_iff] at hn
        omega
section
variable {T : Cls2} {K : PySem.W.Frag} {H H' H0 H1 H2 : Hp} {av av' av0 av1 av2 : Av} {Γ Γ' Γ0 Γ1 Γ2 : G} {σ σ' σ0 σ1 σ2 : St} {is : List Nat}
theorem wipe_ownAt {i : Nat} {a : Addr} (h : OwnAt (wipeG Γ is) (wipe σ is) i a) : OwnAt Γ σ i a ∧ i ∉ is := by
  obtain ⟨o, e⟩ := isOwn_some h.1
  rcases wipeG_in e with ⟨_, z⟩ | ⟨h1, h2⟩
  · cases z
  · have := h.2
    rw [wipe_out h1] at this
    exact ⟨.mk' h2 this, h1⟩
theorem wipe_borAt {i : Nat} {a : Addr} (h : BorAt (wipeG Γ is) (wipe σ is) i a) : BorAt Γ σ i a ∧ i ∉ is := by
  obtain ⟨o, e⟩ := isBor_some h.1
  rcases wipeG_in e with ⟨_, z⟩ | ⟨h1, h2⟩
  · cases z
  · have := h.2
    rw [wipe_out h1] at this
    exact ⟨.mk' h2 this, h1⟩
theorem wipe_heldAt {i : Nat} {a : Addr} (h : HeldAt (wipeG Γ is) (wipe σ is) i a) : HeldAt Γ σ i a ∧ i ∉ is := h.elim (fun z => let ⟨p, q⟩ := wipe_ownAt z; ⟨.inl p, q⟩) fun z => let ⟨p, q⟩ := wipe_borAt z; ⟨.inr p, q⟩
theorem Rel.wipe (rl : Rel T K av Γ σ H) (is : List Nat) : Rel T K av (wipeG Γ is) (L2.wipe σ is) H := by
  refine ⟨by rw [wipeG_len, wipe_length]; exact rl.len, fun i e h => ?_, fun i j p h1 h2 h3 h4 => ?_, rl.trk⟩
  · rcases wipeG_in h with ⟨_, z⟩ | ⟨h1, h2⟩
    · subst z; trivial
    · rw [wipe_out h1]
      exact rl.ent i e h2
  · exact rl.inj' (wipe_ownAt ⟨h1, h3⟩).1 (wipe_heldAt (h2.elim (fun z => .inl ⟨z, h4⟩) fun z => .inr ⟨z, h4⟩)).1
theorem wipe_fra (is : List Nat) : Fra σ Γ av H (wipe σ is) (wipeG Γ is) av H :=
  ⟨fun _ _ h _ => h, fun _ _ h => ⟨_, h⟩, fun _ h _ => h, fun _ _ _ h => h, fun _ _ h => .inl (wipe_ownAt h).1, fun _ _ h => (wipe_borAt h).1⟩
/-- behind the block: its own names are as they were -/
theorem rest_ok (rl : Rel T K av Γ σ H) (rl2 : Rel T K av2 Γ2 (wipe σ is) H2) (f : Fra (wipe σ is) (wipeG Γ is) av H (wipe σ is) Γ2 av2 H2) : Rel T K av2 (restG Γ Γ2 is) σ H2 ∧ Fra σ Γ av H σ (restG Γ Γ2 is) av2 H2 := by
  have hl : Γ.length = Γ2.length := by rw [rl.len, rl2.len, wipe_length]
  have no : ∀ {i q}, i ∈ is → HeldAt Γ σ i q → ¬ OwnS (wipeG Γ is) (wipe σ is) q := fun {i q} hi h ⟨j, z⟩ => by
    obtain ⟨z1, z2⟩ := wipe_ownAt z
    exact z2 (rl.inj' z1 h ▸ hi)
  have ow : ∀ {i a}, OwnAt (restG Γ Γ2 is) σ i a → (i ∈ is ∧ OwnAt Γ σ i a) ∨ (i ∉ is ∧ OwnAt Γ2 (wipe σ is) i a) := fun {i a} z => by
    obtain ⟨o, e⟩ := isOwn_some z.1
    rcases restG_in hl e with ⟨h1, h2⟩ | ⟨h1, h2⟩
    · exact .inl ⟨h1, .mk' h2 z.2⟩
    · exact .inr ⟨h1, .mk' h2 (by rw [wipe_out h1]; exact z.2)⟩
  have bo : ∀ {i a}, BorAt (restG Γ Γ2 is) σ i a → (i ∈ is ∧ BorAt Γ σ i a) ∨ (i ∉ is ∧ BorAt Γ2 (wipe σ is) i a) := fun {i a} z => by
    obtain ⟨o, e⟩ := isBor_some z.1
    rcases restG_in hl e with ⟨h1, h2⟩ | ⟨h1, h2⟩
    · exact .inl ⟨h1, .mk' h2 z.2⟩
    · exact .inr ⟨h1, .mk' h2 (by rw [wipe_out h1]; exact z.2)⟩
  have he : ∀ {i a}, HeldAt (restG Γ Γ2 is) σ i a → (i ∈ is ∧ HeldAt Γ σ i a) ∨ (i ∉ is ∧ HeldAt Γ2 (wipe σ is) i a) := fun {i a} z => z.elim (fun z => (ow z).imp (fun z => ⟨z.1, .inl z.2⟩) fun z => ⟨z.1, .inl z.2⟩) fun z => (bo z).imp (fun z => ⟨z.1, .inr z.2⟩) fun z => ⟨z.1, .inr z.2⟩
  have kp : Kp av H av2 H2 := f.kp (rl.wipe is)
  refine ⟨⟨by rw [restG_len]; rw [rl2.len, wipe_length], fun i e h => ?_, fun i j p h1 h2 h3 h4 => ?_, rl2.trk⟩, ⟨fun a o h n => f.keep a o h fun ⟨j, z⟩ => n ⟨j, (wipe_ownAt z).1⟩, f.thr, fun a h n => f.av1 a h fun ⟨j, z⟩ => n ⟨j, (wipe_ownAt z).1⟩, f.av2, fun i a z => ?_, fun i a z => ?_⟩⟩
  · rcases restG_in hl h with ⟨h1, h2⟩ | ⟨h1, h2⟩
    · refine ERep.kp (p := 0) kp (fun q hq hx => ?_) (rl.ent i e h2)
      have hh := heldAt_of h2 hq hx
      obtain ⟨_, u, hu, _⟩ := rl.heldAt hh
      exact ⟨by rw [f.keep q u hu (no h1 hh), hu], fun z => f.av1 q z (no h1 hh)⟩
    · have := rl2.ent i e h2
      rw [wipe_out h1] at this
      exact this
  · rcases ow ⟨h1, h3⟩ with ⟨a1, a2⟩ | ⟨a1, a2⟩
    · rcases he (h2.elim (fun z => .inl ⟨z, h4⟩) fun z => .inr ⟨z, h4⟩ : HeldAt _ σ j p) with ⟨b1, b2⟩ | ⟨b1, b2⟩
      · exact rl.inj' a2 b2
      · rcases f.heldAt b2 with z | z
        · exact rl.inj' a2 (wipe_heldAt z).1
        · obtain ⟨_, u, hu, _⟩ := rl.heldAt (.inl a2)
          rw [hu] at z
          cases z
    · rcases he (h2.elim (fun z => .inl ⟨z, h4⟩) fun z => .inr ⟨z, h4⟩ : HeldAt _ σ j p) with ⟨b1, b2⟩ | ⟨b1, b2⟩
      · rcases f.own i p a2 with z | z
        · exact rl.inj' (wipe_ownAt z).1 b2
        · obtain ⟨_, u, hu, _⟩ := rl.heldAt b2
          rw [hu] at z
          cases z
      · exact rl2.inj' a2 b2
  · rcases ow z with ⟨a1, a2⟩ | ⟨a1, a2⟩
    · exact .inl a2
    · exact (f.own i a a2).imp (fun z => (wipe_ownAt z).1) id
  · rcases bo z with ⟨a1, a2⟩ | ⟨a1, a2⟩
    · exact a2
    · exact (wipe_borAt (f.bor i a a2)).1
end
theorem back_held {Γ : G} {σ : St} {is : List Nat} {i : Nat} {a : Addr} (h : HeldAt (Mi.back Γ is) σ i a) : HeldAt Γ σ i a := by
  rcases h with ⟨h1, h2⟩ | ⟨h1, h2⟩
  · obtain ⟨o, e⟩ := isOwn_some h1
    rcases back_get e with ⟨g, _⟩ | ⟨o', _, g, _⟩
    · exact .inl (.mk' g h2)
    · exact .inr (.mk' g h2)
  · obtain ⟨o, e⟩ := isBor_some h1
    rcases back_get e with ⟨g, _⟩ | ⟨o', _, g, z⟩
    · exact .inr (.mk' g h2)
    · cases z
mutual
theorem put_len : ∀ {t : Tg} {d : D} {Γ Γ' : G}, put t d Γ = some Γ' → Γ'.length = Γ.length
  | .nm i, d, Γ, Γ', e => by
    rw [put] at e
    split at e
    · cases e; rw [List.length_set]
    · cases e
  | .tup ts, d, Γ, Γ', e => by
    cases d with
    | tup ds => rw [put] at e; exact puts_len2 e
    | lst ds => rw [put] at e; exact puts_len2 e
    | _ => rw [put] at e; cases e; all_goals simp
  | .star is i, d, Γ, Γ', e => by
    cases d with
    | tup ds =>
      rw [put] at e
      split at e
      · obtain ⟨Γ1, g1, g2⟩ := Option.map_eq_some_iff.mp e
        subst g2
        rw [List.length_set]
        exact (putn_len g1).2
      · cases e
    | lst ds =>
      rw [put] at e
      split at e
      · obtain ⟨Γ1, g1, g2⟩ := Option.map_eq_some_iff.mp e
        subst g2
        rw [List.length_set]
        exact (putn_len g1).2
      · cases e
    | _ => rw [put] at e; cases e; all_goals simp
theorem puts_len2 : ∀ {ts : List Tg} {ds : List D} {Γ Γ' : G}, puts ts ds Γ = some Γ' → Γ'.length = Γ.length
  | [], [], _, _, e => by rw [puts] at e; cases e; rfl
  | [], _ :: _, _, _, e => by rw [puts] at e; cases e; all_goals simp
  | _ :: _, [], _, _, e => by rw [puts] at e; cases e; all_goals simp
  | t :: ts, d :: ds, Γ, Γ', e => by
    rw [puts] at e
    obtain ⟨Γ1, e1, e⟩ := Option.bind_eq_some_iff.mp e
    rw [puts_len2 e, put_len e1]
end
/-- a clause's test -/
abbrev SC (T : Cls2) (X : Cx) (e : List Expr) (f : G → Option (Bool × G)) : Prop := PTs X e (tT T X.K f)
theorem _root_.L2.PTs.imp {X : Cx} {e : List Expr} {t t' : TT} (h : PTs X e t) (k : ∀ σ H Q, t' σ H Q → t σ H Q) : PTs X e t' := ⟨fun pins s σ H Q I q => h.run pins s σ H Q I (k σ H Q q)⟩
section
variable {X : Cx} {T : Cls2} {C : Ctx} {pos p1 : Pos} {x y z tg : Expr} {a b c : E}
theorem sc_none : SC T X [] (evC C .non) := by
  refine pts_nil.imp fun σ H Q ⟨av, Γ, ds, Γ', rl, e, q⟩ => ?_
  rw [evC] at e
  cases e
  exact q H av ⟨rl, Fra.refl⟩
theorem sc_some (h : ST T X x (evT C a)) : SC T X [x] (evC C (.som a)) := by
  refine (pts_one h.pt).imp fun σ H Q ⟨av, Γ, ds, Γ', rl, e, q⟩ => ?_
  rw [evC] at e
  exact ⟨av, Γ, ds, Γ', rl, e, q⟩
/-- one turn's reading -/
def turnC (C : Ctx) (own : List Nat) (t : Tg) (c : Eo) (e : E) (d : D) (Γ2 : G) : Option (Option D × G) := (put t d Γ2).bind fun Γ3 => (evC C c Γ3).bind fun (b, Γ4) =>
  if b then (ev C e Γ4).bind fun (r, Γ5) => (frz Γ5 r).map fun (d, Γ6) => (some d, wipeG Γ6 own) else some (none, wipeG Γ4 own)
theorem lc_read {w : Bool} {own : List Nat} {t : Tg} {it : It} {c : Eo} {e : E} {sl : List Nat} {σ : St} {H : Hp} {Q : VK} (hs : ∀ i ∈ sl, i ∈ own) (h : tE T X.K (ev C (.cpr own t it c e)) σ H Q) :
    tLc (tI T X.K w (evI C it)) (tG T X.K w sl (put t)) (tT T X.K (evC C c)) (tE T X.K (ev C e)) own σ H Q := by
  obtain ⟨av, Γ, r, Γ', rl, ee, q⟩ := h
  rw [ev] at ee
  obtain ⟨⟨ds, brs, Γ1⟩, e1, ee⟩ := Option.bind_eq_some_iff.mp ee
  simp only at ee
  split at ee
  · cases ee
  rename_i hlen
  obtain ⟨⟨acc, Γ7⟩, e2, ee⟩ := Option.map_eq_some_iff.mp ee
  cases ee
  refine ⟨av, Γ, ds, brs, Γ1, rl, e1, fun J H1 av1 PI D hD => ?_⟩
  obtain ⟨⟨Γp, rlp, fp, ln⟩, wk⟩ := PI
  have rl1 : Rel T X.K av1 Γ1 σ H1 := ln.rel rlp
  have rlw : Rel T X.K av1 (wipeG Γ1 own) (wipe σ own) H1 := rl1.wipe own
  let W : Nat → Nat → Hp → Prop := fun i m H2 => m + i = ds.length ∧ ∃ acc' xs av2 Γ2, Rel T X.K av2 Γ2 (wipe σ own) H2 ∧ H2 D = some (.lst xs) ∧ Reps T X.K H2 av2 acc' xs ∧ av2 D ∧ ¬ Held Γ2 (wipe σ own) D ∧ acc'.length ≤ i ∧
    Fra (wipe σ own) (wipeG Γ1 own) av1 H1 (wipe σ own) Γ2 av2 H2 ∧ cprL (turnC C own t c e) (ds.drop i) acc' Γ2 = some (acc, Γ7)
  refine ⟨W, ⟨ds.length, by simp, [], [], _, wipeG Γ1 own, alloc_rel rlw hD true, upd_same, .nil, .inr ⟨rfl, rfl⟩, fun z => ?_, Nat.zero_le _, alloc_fra hD true, e2⟩, ?_⟩
  · obtain ⟨_, u, hu, _⟩ := rlw.held z
    rw [hD] at hu
    cases hu
  rintro i m H2 ⟨hm, acc', xs, av2, Γ2, r2, hx, rx, ha, hh, hal, f2, e3⟩
  have f1 : Fra σ Γ1 av1 H1 (wipe σ own) Γ2 av2 H2 := (wipe_fra own).trans rl1 f2
  obtain ⟨wstop, wgo⟩ := wk (wipe σ own) Γ2 av2 H2 r2 f1 i
  by_cases hi : i < ds.length
  · right
    have hd : ds[i]? = some ds[i] := List.getElem?_eq_getElem hi
    obtain ⟨go, yld⟩ := wgo _ hd
    have hdr : ds.drop i = ds[i] :: ds.drop (i + 1) := List.drop_eq_getElem_cons hi
    rw [hdr, cprL] at e3
    obtain ⟨⟨yo, Γ8⟩, e4, e3⟩ := Option.bind_eq_some_iff.mp e3
    refine ⟨go, fun H' => W (i + 1) (m - 1) H', fun H' w => ⟨m - 1, by omega, w⟩, fun x H3 yy => ?_⟩
    obtain ⟨r3, f3, rx3⟩ := yld x H3 yy
    unfold turnC at e4
    obtain ⟨Γ3, g1, e4⟩ := Option.bind_eq_some_iff.mp e4
    obtain ⟨⟨bb, Γ4⟩, g2, e4⟩ := Option.bind_eq_some_iff.mp e4
    refine ⟨av2, Γ2, ds[i], Γ3, r3, rx3, g1, fun σ4 H4 av4 P4 => ?_⟩
    have hlen4 : σ4.length = (wipe σ own).length := by
      have h1 := P4.rel.len
      have h2 := r3.len
      have : Γ3.length = Γ2.length := put_len g1
      omega
    have hw : wipe σ4 own = wipe (wipe σ own) own := wipe_eq hlen4 fun j hj => P4.dif j fun z => hj (hs j z)
    have hww : wipe (wipe σ own) own = wipe σ own := wipe_eq (wipe_length σ own) fun j hj => wipe_out hj
    refine ⟨by rw [hw, hww], av4, Γ3, bb, Γ4, P4.rel, g2, fun H5 av5 P5 => ?_⟩
    -- what stays of the new list: through code that does not know it
    have carry : ∀ {Γx Γy : G} {σx σy : St} {avx avy : Av} {Hx Hy : Hp}, Rel T X.K avx Γx σx Hx → Fra σx Γx avx Hx σy Γy avy Hy → Hx D = some (.lst xs) → Reps T X.K Hx avx acc' xs → avx D → ¬ Held Γx σx D → Hy D = some (.lst xs) ∧ Reps T X.K Hy avy acc' xs ∧ avy D ∧ ¬ Held Γy σy D := fun {Γx Γy σx σy avx avy Hx Hy} rr ff h1 h2 h3 h4 => by
      have no : ¬ OwnS Γx σx D := fun ⟨j, z⟩ => h4 ⟨j, .inl z⟩
      refine ⟨ff.keep D _ h1 no, h2.kp (ff.kp rr), ff.av1 D h3 no, fun z => ?_⟩
      rcases ff.held z with z | z
      · exact h4 z
      · rw [h1] at z; cases z
    have F0 : Fra (wipe σ own) Γ2 av2 H2 σ4 Γ4 av5 H5 := (f3.trans r2 P4.fra).trans r2 P5.fra
    cases bb with
    | false =>
      simp only [Bool.false_eq_true, if_false] at e4 ⊢
      cases e4
      obtain ⟨c1, c2, c3, c4⟩ := carry r2 F0 hx rx ha hh
      have rw' := P5.rel.wipe own
      rw [hw, hww] at rw'
      refine ⟨by omega, acc', xs, av5, wipeG Γ4 own, rw', c1, c2, c3, fun ⟨j, z⟩ => c4 ⟨j, ?_⟩, by omega, ?_, e3⟩
      · rw [← hww, ← hw] at z
        exact (wipe_heldAt z).1
      · have := (f2.trans rlw F0).trans rlw (wipe_fra own)
        rw [hw, hww] at this
        exact this
    | true =>
      simp only [if_true] at e4 ⊢
      obtain ⟨⟨re, Γ5⟩, g3, e4⟩ := Option.bind_eq_some_iff.mp e4
      obtain ⟨⟨de, Γ6⟩, g4, e4⟩ := Option.map_eq_some_iff.mp e4
      cases e4
      refine ⟨av5, Γ4, re, Γ5, P5.rel, g3, fun v H6 av6 P6 => ?_⟩
      obtain ⟨av7, P7⟩ := frz_ok P5.rel P6 g4
      have F1 : Fra (wipe σ own) Γ2 av2 H2 σ4 Γ6 av7 H6 := F0.trans r2 P7.fra
      obtain ⟨c1, c2, c3, c4⟩ := carry r2 F1 hx rx ha hh
      refine ⟨xs, c1, by rw [← rx.length, line_eq]; omega, ?_⟩
      have rw' := P7.rel.wipe own
      rw [hw, hww] at rw'
      have hnw : ¬ Held (wipeG Γ6 own) (wipe σ own) D := fun ⟨j, z⟩ => c4 ⟨j, by
        rw [← hww, ← hw] at z
        exact (wipe_heldAt z).1⟩
      have kpD : Kp av7 H6 av7 (upd H6 D (.lst (xs ++ [v]))) := kp_write c3 c1 trivial
      have fr := (f2.trans rlw F1).trans rlw (wipe_fra own)
      rw [hw, hww] at fr
      refine ⟨by omega, acc' ++ [de], xs ++ [v], av7, wipeG Γ6 own, ⟨rw'.len, fun j ee hj => ERep.kp (p := D) kpD (fun p' hp' hx' => ⟨upd_ne fun z => hnw ⟨j, z ▸ heldAt_of hj hp' hx'⟩, id⟩) (rw'.ent j ee hj), rw'.inj, fun a z => ?_⟩, upd_same, (c2.append (.cons P7.dat .nil)).kp kpD, c3, hnw, by rw [List.length_append, List.length_singleton]; omega, ?_, e3⟩
      · by_cases he : a = D
        · subst he; exact ⟨_, upd_same⟩
        · obtain ⟨o, ho⟩ := rw'.trk a z; exact ⟨o, by rw [upd_ne he]; exact ho⟩
      · refine ⟨fun a o h n => ?_, fun a o h => ?_, fr.av1, fr.av2, fr.own, fr.bor⟩
        · rw [upd_ne (ne_of_none h hD)]; exact fr.keep a o h n
        · rw [upd_ne (ne_of_none h hD)]; exact fr.thr a o h
  · left
    have hdr : ds.drop i = [] := List.drop_eq_nil_of_le (by omega)
    rw [hdr, cprL] at e3
    cases e3
    refine ⟨wstop (by omega) (by omega), ?_⟩
    obtain ⟨r7, f7⟩ := rest_ok rl1 r2 f2
    obtain ⟨r8, f8⟩ := ln.back rlp f7 r7
    refine q _ _ av2 ⟨r8, ⟨D, rfl, ⟨xs, hx, rx⟩, ha, fp.free hD, fun z => ?_⟩, fp.trans rl f8⟩
    obtain ⟨j, z⟩ := z
    have hl : Γ1.length = Γ7.length := by rw [rl1.len, r2.len, wipe_length]
    have z := back_held z
    have fin : ∀ e, (restG Γ1 Γ7 own)[j]? = some e → (IsOwn (some e) ∨ IsBor (some e)) → σ[j]? = some (some (V.ref D)) → False := fun e he hb hs' => by
      rcases restG_in hl he with ⟨h1, h2⟩ | ⟨h1, h2⟩
      · obtain ⟨_, u, hu, _⟩ := rl1.heldAt (heldAt_of h2 hb hs')
        rw [hD] at hu
        cases hu
      · exact hh ⟨j, heldAt_of h2 hb (by rw [wipe_out h1]; exact hs')⟩
    rcases z with ⟨z1, z2⟩ | ⟨z1, z2⟩
    · obtain ⟨o, e⟩ := isOwn_some z1
      exact fin _ e (.inl trivial) z2
    · obtain ⟨o, e⟩ := isBor_some z1
      exact fin _ e (.inr trivial) z2
end
end Mi

namespace Mi
open PySem PySem.Spec L2
open PyProof.Rows hiding St

/-! ## statements by data -/
structure PostS (T : Cls2) (K : PySem.W.Frag) (pin : List Nat) (σ : St) (av : Av) (Γ : G) (H : Hp) (σ' : St) (Γ' : G) (H' : Hp) (av' : Av) : Prop where
  rel : Rel T K av' Γ' σ' H'
  fra : Fra σ Γ av H σ' Γ' av' H'
  pin : ∀ i ∈ pin, σ'[i]? = σ[i]?
section
variable {T : Cls2} {K : PySem.W.Frag} {pin : List Nat} {H H' H0 H1 H2 : Hp} {av av' av0 av1 av2 : Av} {Γ Γ' Γ0 Γ1 Γ2 : G} {σ σ' σ0 σ1 σ2 : St}
theorem PostS.refl (rl : Rel T K av Γ σ H) : PostS T K pin σ av Γ H σ Γ H av := ⟨rl, Fra.refl, fun _ _ => rfl⟩
theorem PostS.trans (rl : Rel T K av Γ σ H) (a : PostS T K pin σ av Γ H σ1 Γ1 H1 av1) (b : PostS T K pin σ1 av1 Γ1 H1 σ2 Γ2 H2 av2) : PostS T K pin σ av Γ H σ2 Γ2 H2 av2 :=
  ⟨b.rel, a.fra.trans rl b.fra, fun i h => (b.pin i h).trans (a.pin i h)⟩
theorem Post.s {r : R} {v : V} (P : Post T K σ av Γ H Γ' r v H' av') : PostS T K pin σ av Γ H σ Γ' H' av' := ⟨P.rel, P.fra, fun _ _ => rfl⟩
theorem PostN.s (P : PostN T K σ av Γ H Γ' H' av') : PostS T K pin σ av Γ H σ Γ' H' av' := ⟨P.rel, P.fra, fun _ _ => rfl⟩
theorem PostG.s {sl : List Nat} (P : PostG T K sl σ av Γ H σ' Γ' H' av') (h : ∀ i ∈ sl, i ∉ pin) : PostS T K pin σ av Γ H σ' Γ' H' av' := ⟨P.rel, P.fra, fun i hi => P.dif i fun z => h i z hi⟩
end
/-- what is wanted behind, by how it ended -/
def EndsD (T : Cls2) (K : PySem.W.Frag) (D : Ends) (H : Hp) (fl : Fl) (σ' : St) (Γ' : G) (H' : Hp) (av' : Av) : Prop := match fl with
  | .nx => D.nx σ' H'
  | .bk => D.bk σ' H'
  | .ct => D.ct σ' H'
  | .rt r => ∀ v, RRep T K H σ' Γ' H' av' r v → D.rt v H'
def tS (T : Cls2) (K : PySem.W.Frag) (pin : List Nat) (f : G → Option (Fl × G)) : TS := fun D σ H => ∃ av Γ fl Γ', Rel T K av Γ σ H ∧ f Γ = some (fl, Γ') ∧ ∀ σ' H' av', PostS T K pin σ av Γ H σ' Γ' H' av' → EndsD T K D H fl σ' Γ' H' av'
abbrev SS (T : Cls2) (X : Cx) (pin : List Nat) (s : Stmt) (f : G → Option (Fl × G)) : Prop := PS X s (tS T X.K pin f)
abbrev SSs (T : Cls2) (X : Cx) (pin : List Nat) (s : List Stmt) (f : G → Option (Fl × G)) : Prop := PSs X s (tS T X.K pin f)
theorem EndsD.older {T : Cls2} {K : PySem.W.Frag} {D : Ends} {H H0 : Hp} {fl : Fl} {σ' : St} {Γ' : G} {H' : Hp} {av' : Av} (h : EndsD T K D H fl σ' Γ' H' av') (k : ∀ a, H0 a = none → H a = none) : EndsD T K D H0 fl σ' Γ' H' av' := by
  cases fl with
  | rt r => exact fun v q => h v (q.older k)
  | _ => exact h
section
variable {X : Cx} {T : Cls2} {C : Ctx} {pin : List Nat} {pos p1 : Pos} {x y z tg : Expr} {a b c e : E}
theorem ss_ret (ha : SE T X x (ev C a)) : SS T X pin (.Return (some x) pos) (ex C (.ret a)) := by
  refine (ps_ret ha).imp fun D σ H ⟨av, Γ, fl, Γ', rl, e, q⟩ => ?_
  rw [ex] at e
  obtain ⟨⟨r, Γ1⟩, e1, e⟩ := Option.map_eq_some_iff.mp e
  cases e
  exact ⟨av, Γ, r, _, rl, e1, fun v H1 av1 P => q σ H1 av1 P.s v P.rep⟩
theorem ss_retn : SS T X pin (.Return none pos) (ex C .retn) := by
  refine ps_retN.imp fun D σ H ⟨av, Γ, fl, Γ', rl, e, q⟩ => ?_
  rw [ex] at e
  cases e
  exact q σ H av (.refl rl) .non (show Rep T X.K H av .non .non from rnon)
theorem ss_pas : SS T X pin (.Pass pos) (ex C .pas) := by
  refine ps_pass.imp fun D σ H ⟨av, Γ, fl, Γ', rl, e, q⟩ => ?_
  rw [ex] at e
  cases e
  exact q σ H av (.refl rl)
theorem ss_brk : SS T X pin (.Break pos) (ex C .brk) := by
  refine ps_break.imp fun D σ H ⟨av, Γ, fl, Γ', rl, e, q⟩ => ?_
  rw [ex] at e
  cases e
  exact q σ H av (.refl rl)
theorem ss_cnt : SS T X pin (.Continue pos) (ex C .cnt) := by
  refine ps_continue.imp fun D σ H ⟨av, Γ, fl, Γ', rl, e, q⟩ => ?_
  rw [ex] at e
  cases e
  exact q σ H av (.refl rl)
theorem ss_bad {s : Stmt} : SS T X pin s (ex C .bad) := ⟨fun pins s σ H D I ⟨av, Γ, fl, Γ', rl, e, q⟩ => by rw [ex] at e; cases e⟩
theorem noSwap {e : Expr} (h : ∀ a b s p, e ≠ .ListComp a b s p) (h2 : ∀ a b s p, e ≠ .SetComp a b s p) (h3 : ∀ a b d s p, e ≠ .DictComp a b d s p) (t : Option Expr) (l : Nat) (env : Env) : swapsWith e t l env = pure false := by
  cases e <;> first | rfl | exact absurd rfl (h _ _ _ _) | exact absurd rfl (h2 _ _ _ _) | exact absurd rfl (h3 _ _ _ _ _)
/-- no comprehension -/
def noComp : Expr → Bool
  | .ListComp .. => false
  | .SetComp .. => false
  | .DictComp .. => false
  | _ => true
theorem noSwap' {e : Expr} (h : noComp e = true) (t : Option Expr) (l : Nat) (env : Env) : swapsWith e t l env = pure false := by
  cases e <;> first | rfl | cases h
theorem ss_exp (ha : SE T X x (ev C a)) (hs : noComp x = true) : SS T X pin (.Expr x pos) (ex C (.exp a)) := by
  refine (ps_expr ha (noSwap' hs _ _ _)).imp fun D σ H ⟨av, Γ, fl, Γ', rl, e, q⟩ => ?_
  rw [ex] at e
  obtain ⟨⟨r, Γ1⟩, e1, e⟩ := Option.map_eq_some_iff.mp e
  cases e
  exact ⟨av, Γ, r, _, rl, e1, fun v H1 av1 P => q σ H1 av1 P.s⟩
theorem ss_setf' {c j : Nat} {n : Str} {p2 : Pos} (cl : ClC T X.K c) (hn : (T.flds c)[j]? = some n) (hb : SE T X y (ev C b)) (ha : SE T X x (ev C a)) (hs : noComp x = true) : SS T X pin (.Assign [.Attribute y n p2] x pos) (ex C (.setf b c j a)) := by
  refine (ss_setf cl hn hb ha fun t l => noSwap' hs t l _).imp fun D σ H ⟨av, Γ, fl, Γ', rl, e, q⟩ => ?_
  have hfl : fl = .nx := by
    rw [ex] at e
    obtain ⟨⟨r, Γ1⟩, e1, e⟩ := Option.bind_eq_some_iff.mp e
    obtain ⟨⟨d, Γ2⟩, e2, e⟩ := Option.bind_eq_some_iff.mp e
    obtain ⟨⟨rb, Γ3⟩, e3, e⟩ := Option.bind_eq_some_iff.mp e
    simp only at e
    split at e
    · split at e
      · obtain ⟨o', e4, e⟩ := Option.map_eq_some_iff.mp e
        cases e
        rfl
      · cases e
    · cases e
  subst hfl
  exact ⟨av, Γ, Γ', rl, e, fun H' av' P => q σ H' av' P.s⟩
theorem ss_doc {z : Str} {j : Nat} {p : Pos} : SS T X pin (.Expr (.Constant (.str z) j p) pos) (ex C .pas) := by
  refine ps_doc.imp fun D σ H ⟨av, Γ, fl, Γ', rl, e, q⟩ => ?_
  rw [ex] at e
  cases e
  exact q σ H av (.refl rl)
theorem ss_if {l1 l2 : List Stmt} {s1 s2 : Ss} (hc : ST T X z (evT C c)) (h1 : SSs T X pin l1 (exs C s1)) (h2 : SSs T X pin l2 (exs C s2)) : SS T X pin (.If z l1 l2 pos) (ex C (.ife c s1 s2)) := by
  refine (ps_if hc.pt h1 h2).imp fun D σ H ⟨av, Γ, fl, Γ', rl, e, q⟩ => ?_
  rw [ex] at e
  obtain ⟨⟨t, Γ1⟩, e1, e⟩ := Option.bind_eq_some_iff.mp e
  refine ⟨av, Γ, t, Γ1, rl, e1, fun H1 av1 P => ?_⟩
  cases t with
  | true => exact ⟨av1, Γ1, fl, Γ', P.rel, e, fun σ' H' av' P2 => (q σ' H' av' (P.s.trans rl P2)).older fun a h => P.fra.free h⟩
  | false => exact ⟨av1, Γ1, fl, Γ', P.rel, e, fun σ' H' av' P2 => (q σ' H' av' (P.s.trans rl P2)).older fun a h => P.fra.free h⟩
theorem sss_nil : SSs T X pin [] (exs C .nil) := by
  refine pss_nil.imp fun D σ H ⟨av, Γ, fl, Γ', rl, e, q⟩ => ?_
  rw [exs] at e
  cases e
  exact q σ H av (.refl rl)
theorem sss_cons {s : Stmt} {l : List Stmt} {m : S} {ms : Ss} (h1 : SS T X pin s (ex C m)) (h2 : SSs T X pin l (exs C ms)) : SSs T X pin (s :: l) (exs C (.cons m ms)) := by
  refine (pss_cons h1 h2).imp fun D σ H ⟨av, Γ, fl, Γ', rl, e, q⟩ => ?_
  rw [exs] at e
  obtain ⟨⟨f1, Γ1⟩, e1, e⟩ := Option.bind_eq_some_iff.mp e
  refine ⟨av, Γ, f1, Γ1, rl, e1, fun σ1 H1 av1 P1 => ?_⟩
  cases f1 with
  | nx => exact ⟨av1, Γ1, fl, Γ', P1.rel, e, fun σ' H' av' P2 => (q σ' H' av' (P1.trans rl P2)).older fun a h => P1.fra.free h⟩
  | bk => cases e; exact q σ1 H1 av1 P1
  | ct => cases e; exact q σ1 H1 av1 P1
  | rt r => cases e; exact q σ1 H1 av1 P1
/-- name = e -/
theorem asg_nm {i : Nat} {r : R} {Γ Γ1 Γ2 : G} {σ : St} {H H1 : Hp} {av av1 : Av} {v : V} (rl : Rel T X.K av Γ σ H) (P : Post T X.K σ av Γ H Γ1 r v H1 av1) (e : asg (.nm i) r Γ1 = some Γ2) : ∃ av2, PostG T X.K [i] σ av Γ H (σ.set i (some v)) Γ2 H1 av2 := by
  have val : ∀ {d : D} {Γ3 : G}, frz Γ1 r = some (d, Γ3) → put (.nm i) d Γ3 = some Γ2 → ∃ av2, PostG T X.K [i] σ av Γ H (σ.set i (some v)) Γ2 H1 av2 := fun {d Γ3} e1 e2 => by
    obtain ⟨av2, P2⟩ := frz_ok rl P e1
    rw [put] at e2
    split at e2
    · rename_i hl
      cases e2
      exact ⟨av2, P2.rel.set hl ⟨v, rfl, P2.dat⟩ id fun _ _ z => z.elim, P2.fra.set id fun _ _ z => z.elim, put_dif⟩
    · cases e2
  cases r with
  | fr o =>
    have e : (if i < Γ1.length then some (Γ1.set i (.own o)) else none) = some Γ2 := e
    split at e
    · rename_i hl
      cases e
      obtain ⟨p, rfl, h1, h2, h3, h4⟩ := P.rep
      exact ⟨av1, P.rel.set hl ⟨p, rfl, h2, h1⟩ id fun p' ep _ => by cases ep; exact h4, P.fra.set id fun p' ep _ => by cases ep; exact h3, put_dif⟩
    · cases e
  | val d =>
    have e : (frz Γ1 (.val d)).bind (fun (d, Γ') => put (.nm i) d Γ') = some Γ2 := e
    obtain ⟨⟨d', Γ3⟩, e1, e2⟩ := Option.bind_eq_some_iff.mp e
    exact val e1 e2
  | loc j =>
    have e : (frz Γ1 (.loc j)).bind (fun (d, Γ') => put (.nm i) d Γ') = some Γ2 := e
    obtain ⟨⟨d', Γ3⟩, e1, e2⟩ := Option.bind_eq_some_iff.mp e
    exact val e1 e2
theorem ss_set_read {i : Nat} (hp : i ∉ pin) {D : Ends} {σ : St} {H : Hp} (h : tS T X.K pin (ex C (.asg (.nm i) a)) D σ H) : tAsg (tE T X.K (ev C a)) (gName i) D σ H := by
  obtain ⟨av, Γ, fl, Γ', rl, e, q⟩ := h
  rw [ex] at e
  obtain ⟨⟨r, Γ1⟩, e1, e⟩ := Option.bind_eq_some_iff.mp e
  obtain ⟨Γ2, e2, e⟩ := Option.map_eq_some_iff.mp e
  cases e
  refine ⟨av, Γ, r, Γ1, rl, e1, fun v H1 av1 P => ?_⟩
  obtain ⟨av2, P2⟩ := asg_nm rl P e2
  exact q _ H1 av2 (P2.s fun j hj => by rw [List.mem_singleton.mp hj]; exact hp)
theorem ss_set {i : Nat} {n : Str} (hN : X.N.Nodup) (hi : X.N[i]? = some n) (hx : Loc X.env.scope n) (hf : X.fn n = true ∨ X.env.scope.names.lookup n = some .local) (ha : SE T X x (ev C a)) (hs : swapsWith x (some (.Name n p1)) pos.line X.env = pure false) (hp : i ∉ pin) :
    SS T X pin (.Assign [.Name n p1] x pos) (ex C (.asg (.nm i) a)) := (ps_set hN hi hx ha hs hf).imp fun D σ H h => ss_set_read hp h
/-- a target of another form: what is stored is data -/
theorem asg_put {t : Tg} {r : R} {Γ1 Γ2 : G} (hn : ∀ i, t ≠ .nm i) (e : asg t r Γ1 = some Γ2) : ∃ d Γ3, frz Γ1 r = some (d, Γ3) ∧ put t d Γ3 = some Γ2 := by
  have e : (frz Γ1 r).bind (fun (d, Γ') => put t d Γ') = some Γ2 := by
    cases t with
    | nm i => exact absurd rfl (hn i)
    | tup ts => cases r <;> exact e
    | star is i => cases r <;> exact e
  obtain ⟨⟨d, Γ3⟩, e1, e2⟩ := Option.bind_eq_some_iff.mp e
  exact ⟨d, Γ3, e1, e2⟩
theorem ss_asg {t : Tg} {sl : List Nat} (hn : ∀ i, t ≠ .nm i) (ha : SE T X x (ev C a)) (hg : SG T X tg sl (put t)) (hp : ∀ i ∈ sl, i ∉ pin) (hs : swapsWithSole [tg] x pos.line X.env = pure false) (hw : swappedStores [tg] x X.env = pure none) (h1 : (assignEach [tg] X.env).map (·.2) = [assign tg X.env]) :
    SS T X pin (.Assign [tg] x pos) (ex C (.asg t a)) := by
  refine (ps_asg ha hg hs hw h1).imp fun D σ H ⟨av, Γ, fl, Γ', rl, e, q⟩ => ?_
  rw [ex] at e
  obtain ⟨⟨r, Γ1⟩, e1, e⟩ := Option.bind_eq_some_iff.mp e
  obtain ⟨Γ2, e2, e⟩ := Option.map_eq_some_iff.mp e
  cases e
  obtain ⟨d, Γ3, g1, g2⟩ := asg_put hn e2
  refine ⟨av, Γ, r, Γ1, rl, e1, fun v H1 av1 P => ?_⟩
  obtain ⟨av2, P2⟩ := frz_ok rl P g1
  exact ⟨av2, Γ3, d, _, P2.rel, P2.dat.prep, g2, fun σ' H' av' P3 => q σ' H' av' ((P2.s).trans rl (P3.s hp))⟩
/-- name op= e -/
theorem aop_ok (op : Operator) : PIp X op (fun v u H Q => ∃ av dx dy d, VRep T X.K H av dx v ∧ VRep T X.K H av dy u ∧ aop op dx dy = some d ∧ ∀ w, (∀ H av, Rep T X.K H av d w) → Q w H) := by
  intro pins s σ H x y v u Q I rx ry h
  obtain ⟨av, dx, dy, d, hx, hy, e, q⟩ := h
  unfold aop at e
  split at e
  · cases e
    rw [vint hx] at rx; rw [vint hy] at ry
    exact ip_add pins s σ H _ _ v u Q I rx ry ⟨_, _, rfl, rfl, q _ fun _ _ => rint⟩
  · cases e
    rw [vint hx] at rx; rw [vint hy] at ry
    exact ip_sub pins s σ H _ _ v u Q I rx ry ⟨_, _, rfl, rfl, q _ fun _ _ => rint⟩
  · split at e
    · rename_i hl
      cases e
      rw [vstr hx] at rx; rw [vstr hy] at ry
      exact iop_add_str pins s σ H _ _ v u Q I rx ry ⟨_, _, rfl, rfl, Nat.le_trans hl line_le, q _ fun _ _ => rstr⟩
    · cases e
  · cases e
/-- what op= takes: no address in it -/
theorem aop_flat {op : Operator} {dx dy d : D} (e : aop op dx dy = some d) : flat dx = true := by
  unfold aop at e
  split at e <;> first | rfl | cases e
theorem flat_any {d : D} {v : V} {H H' : Hp} {av av' : Av} (f : flat d = true) (h : Rep T X.K H av d v) : Rep T X.K H' av' d v := by
  cases d <;> first | (unfold Rep at *; exact h) | exact nomatch f
theorem ss_aug {i : Nat} {n : Str} (op : Operator) (hN : X.N.Nodup) (hi : X.N[i]? = some n) (hx : Loc X.env.scope n) (hf : X.fn n = true ∨ X.env.scope.names.lookup n = some .local) (ha : SE T X x (ev C a)) (hp : i ∉ pin) :
    SS T X pin (.AugAssign (.Name n p1) op x pos) (ex C (.aug i op a)) := by
  refine (ps_aug hN hi hx ha (aop_ok (T := T) op) hf).imp fun D σ H ⟨av, Γ, fl, Γ', rl, e, q⟩ => ?_
  rw [ex] at e
  split at e
  · rename_i dx hdx
    obtain ⟨⟨r, Γ1⟩, e1, e⟩ := Option.bind_eq_some_iff.mp e
    obtain ⟨dy, e2, e⟩ := Option.bind_eq_some_iff.mp e
    obtain ⟨d, e3, e⟩ := Option.bind_eq_some_iff.mp e
    split at e
    · rename_i hl
      cases e
      obtain ⟨vx, h1, h2⟩ := rl.ent _ _ hdx
      refine ⟨vx, h1, av, Γ, r, Γ1, rl, e1, fun v H1 av1 P => ⟨av1, dx, dy, d, Rep.vrep (flat_any (X := X) (aop_flat e3) h2), look_ok P.rel P.rep e2, e3, fun w hw => ?_⟩⟩
      have g : PostG T X.K [i] σ av Γ H (σ.set i (some w)) (Γ1.set i (.val d)) H1 av1 := ⟨P.rel.set hl ⟨w, rfl, hw _ _⟩ id fun _ _ z => z.elim, P.fra.set id fun _ _ z => z.elim, put_dif⟩
      exact q _ H1 av1 (g.s fun j hj => by rw [List.mem_singleton.mp hj]; exact hp)
    · cases e
  · cases e
/-- o[i] = e -/
theorem setD_list {k d : D} {o o' : OD} (e : setD k d o = some o') : ∃ xs j n, o = .lst xs ∧ k = .int n ∧ ixn xs.length n = some j ∧ o' = .lst (xs.set j d) := by
  unfold setD at e
  split at e
  · split at e
    · obtain ⟨j, e1, e2⟩ := Option.map_eq_some_iff.mp e
      exact ⟨_, j, _, rfl, rfl, e1, e2.symm⟩
    · cases e
  · cases e
theorem ss_setx {i : E} {q1 : Pos} (ha : SE T X x (ev C a)) (hb : SE T X y (ev C b)) (hi : SE T X z (ev C i)) (hp : plainE z = true) : SS T X pin (.Assign [.Subscript y z q1] x pos) (ex C (.setx b i a)) := by
  have hg : PG X (.Subscript y z q1) (gSub (tE T X.K (ev C b)) (tE T X.K (ev C i)) rSetL) := pg_sub hb hi set_list (by intro v; cases z <;> first | rfl | cases hp)
  refine (ps_asg ha hg (by cases x <;> rfl) (by cases x <;> rfl) rfl).imp fun D σ H ⟨av, Γ, fl, Γ', rl, e, q⟩ => ?_
  rw [ex] at e
  obtain ⟨⟨r, Γ1⟩, e1, e⟩ := Option.bind_eq_some_iff.mp e
  obtain ⟨⟨d, Γ2⟩, e2, e⟩ := Option.bind_eq_some_iff.mp e
  obtain ⟨⟨rb, Γ3⟩, e3, e⟩ := Option.bind_eq_some_iff.mp e
  obtain ⟨⟨ri, Γ4⟩, e4, e⟩ := Option.bind_eq_some_iff.mp e
  obtain ⟨k, e5, e⟩ := Option.bind_eq_some_iff.mp e
  split at e
  · rename_i j
    split at e
    · rename_i o ho
      obtain ⟨o', e6, e⟩ := Option.map_eq_some_iff.mp e
      cases e
      obtain ⟨xs, jj, n, rfl, rfl, e7, rfl⟩ := setD_list e6
      refine ⟨av, Γ, r, Γ1, rl, e1, fun v H1 av1 P => ?_⟩
      obtain ⟨av2, P2⟩ := frz_ok rl P e2
      refine ⟨av2, Γ2, _, Γ3, P2.rel, e3, fun vb H3 av3 P3 => ⟨av3, Γ3, ri, Γ4, P3.rel, e4, fun vi H4 av4 P4 => ?_⟩⟩
      obtain ⟨p, rfl, hpj⟩ := P3.rep
      obtain ⟨p', hq, h1, us, h2, h3⟩ := P4.rel.own ho
      rw [hpj] at hq
      cases hq
      refine ⟨p, us, n, jj, rfl, vint (look_ok P4.rel P4.rep e5), h2, by rw [← ixn_eq, ← h3.length]; exact e7, ?_⟩
      have rv : Rep T X.K H4 av4 d v := Rep.kp (P4.fra.kp P3.rel) (Rep.kp (P3.fra.kp P2.rel) P2.dat)
      obtain ⟨w1, w2⟩ := P4.rel.write ho hpj (o' := .lst (xs.set jj d)) (u := .lst (us.set jj v)) ⟨_, upd_same, (Reps.set rv jj h3).kp (kp_write h1 h2 trivial)⟩
      exact q σ _ av4 ⟨w1, ((P2.fra.trans rl P3.fra).trans rl P4.fra).trans rl w2, fun _ _ => rfl⟩
    · cases e
  · cases e
end
end Mi

namespace Mi
open PySem PySem.Spec L2
open PyProof.Rows hiding St

section
variable {X : Cx} {T : Cls2} {C : Ctx} {pin : List Nat} {pos p1 : Pos} {x y z tg : Expr} {a b c e : E}
/-! ## o[i] op= e -/
theorem get_list : PGet X (fun o i H Q => ∃ p xs k v, o = .ref p ∧ i = .int k ∧ SqL X.K H p xs ∧ atI xs k = some v ∧ Q v H) := by
  intro pins s σ H o i ov iv Q I ro ri h
  obtain ⟨p, xs, k, w, rfl, rfl, hq, he, q⟩ := h
  cases ro
  obtain ⟨t, rfl⟩ := ri
  obtain ⟨its, r, pl, hz⟩ := I.list hq
  obtain ⟨j, h1, h2, h3, h4, h5⟩ := atI_get he
  obtain ⟨u, eu, ru⟩ := r.get h2
  have hl := r.length
  have hn := line63
  by_cases h0 : 0 ≤ k
  · have hj : k.toNat = j := by
      rw [seqIndex_of h0 h5] at h1
      exact Option.some.inj h1
    exact wpAny_getItem_list pl.isList h0 (by omega) (by rw [hj]; simpa using eu) ⟨w, H, I, ru, q⟩
  · have hj : (k + (its.toArray.size : Int)).toNat = j := by
      rw [seqIndex_neg (by omega) h4] at h1
      rw [List.size_toArray, ← hl]
      exact Option.some.inj h1
    exact wpAny_getItem_list_neg pl.isList (by omega) (by rw [List.size_toArray]; omega) (by omega) (by rw [hj]; simpa using eu) ⟨w, H, I, ru, q⟩
theorem idx_list {o : OD} {k d : D} (e : idxD o.d k = some d) : ∃ xs n, o = .lst xs ∧ k = .int n ∧ atD xs n = some d := by
  cases o with
  | lst xs => cases k <;> first | exact ⟨_, _, rfl, rfl, e⟩ | exact nomatch e
  | ins c xs => exact nomatch e
  | dic c xs => exact nomatch e
theorem look_loc {Γ : G} {j : Nat} {d : D} (e : look Γ (.loc j) = some d) : ∃ o, d = o.d ∧ (Γ[j]? = some (.own o) ∨ Γ[j]? = some (.bor o)) := by
  unfold look at e
  simp only at e
  split at e
  · rename_i o ho; cases e; exact ⟨o, rfl, .inl ho⟩
  · rename_i o ho; cases e; exact ⟨o, rfl, .inr ho⟩
  · cases e
theorem ss_augx {i : E} {q1 : Pos} (op : Operator) (hb : SE T X y (ev C b)) (hi : SE T X z (ev C i)) (ha : SE T X x (ev C a)) (hp : plainE z = true) : SS T X pin (.AugAssign (.Subscript y z q1) op x pos) (ex C (.augx b i op a)) := by
  refine (ps_augS hb hi get_list ha (aop_ok (T := T) op) set_list (by intro ov iv new; cases z <;> first | rfl | cases hp)).imp fun D σ H ⟨av, Γ, fl, Γ', rl, e, q⟩ => ?_
  rw [ex] at e
  obtain ⟨⟨rb, Γ1⟩, e1, e⟩ := Option.bind_eq_some_iff.mp e
  obtain ⟨⟨ri, Γ2⟩, e2, e⟩ := Option.bind_eq_some_iff.mp e
  obtain ⟨o, e3, e⟩ := Option.bind_eq_some_iff.mp e
  obtain ⟨k, e4, e⟩ := Option.bind_eq_some_iff.mp e
  obtain ⟨dx, e5, e⟩ := Option.bind_eq_some_iff.mp e
  obtain ⟨⟨r, Γ3⟩, e6, e⟩ := Option.bind_eq_some_iff.mp e
  obtain ⟨dy, e7, e⟩ := Option.bind_eq_some_iff.mp e
  obtain ⟨d, e8, e⟩ := Option.bind_eq_some_iff.mp e
  split at e
  · rename_i j
    split at e
    · rename_i o2 ho
      obtain ⟨o', e9, e⟩ := Option.map_eq_some_iff.mp e
      cases e
      obtain ⟨xs, jj, n, rfl, rfl, e10, rfl⟩ := setD_list e9
      obtain ⟨o1, rfl, ho1⟩ := look_loc e3
      obtain ⟨ys, n', rfl, en, e11⟩ := idx_list e5
      cases en
      refine ⟨av, Γ, _, Γ1, rl, e1, fun vb H1 av1 P1 => ⟨av1, Γ1, ri, Γ2, P1.rel, e2, fun vi H2 av2 P2 => ?_⟩⟩
      obtain ⟨p, rfl, hpj⟩ := P1.rep
      have vi := vint (look_ok P2.rel P2.rep e4)
      subst vi
      obtain ⟨p', zs, g1, g2, g3⟩ := vlst (look_ok P2.rel (P1.rep.fra P1.rel P2.fra) e3)
      cases g1
      obtain ⟨w, g4, g5⟩ := atD_rep g3 e11
      refine ⟨p, zs, n, w, rfl, rfl, SqL.of g2, g4, av2, Γ2, r, Γ3, P2.rel, e6, fun v H3 av3 P3 => ?_⟩
      have g6 : VRep T X.K H3 av3 dx w := Rep.vrep (flat_any (X := X) (aop_flat e8) g5)
      refine ⟨av3, dx, dy, d, g6, look_ok P3.rel P3.rep e7, e8, fun nw hnw => ?_⟩
      obtain ⟨p', hq, h1, us, h2, h3⟩ := P3.rel.own ho
      rw [hpj] at hq
      cases hq
      refine ⟨p, us, n, jj, rfl, rfl, h2, by rw [← ixn_eq, ← h3.length]; exact e10, ?_⟩
      obtain ⟨w1, w2⟩ := P3.rel.write ho hpj (o' := .lst (xs.set jj d)) (u := .lst (us.set jj nw)) ⟨_, upd_same, (Reps.set (hnw _ _) jj h3).kp (kp_write h1 h2 trivial)⟩
      exact q σ _ av3 ⟨w1, ((P1.fra.trans rl P2.fra).trans rl P3.fra).trans rl w2, fun _ _ => rfl⟩
    · cases e
  · cases e
/-! ## a, b = x, y -/
theorem sw_par {env : Env} {n m : Str} {pn pm : Pos} {k k2 : Nat} {pt pv : Pos} (hk : env.scope.kind = .function) (hn : env.scope.names.lookup n = some .local) (hm : env.scope.names.lookup m = some .local) (hl : (pm.line == pn.line) = true) (hne : (m == n) = false)
    (hp : plainE x = true) (hp2 : plainE y = true) (h1 : [x, y].all (foldedForSure 8) = false) (h2 : [x, y].all (constantsAlone 8) = false) :
    swappedStores [.Tuple [.Name n pn, .Name m pm] k pt] (.Tuple [x, y] k2 pv) env = pure (some [n, m]) := by
  have kn : env.kindOf n = some .local := hn
  have km : env.kindOf m = some .local := hm
  have hb : env.blockKind = .function := by unfold Env.blockKind; rw [hk]; rfl
  have st : ∀ e : Expr, plainE e = true → (match e with | .Starred .. => true | _ => false) = false := by
    intro e h
    cases e <;> first | rfl | cases h
  have hs : ([x, y].any fun | .Starred .. => true | _ => false) = false := by
    rw [List.any_cons, List.any_cons, List.any_nil, st x hp, st y hp2]
    rfl
  unfold swappedStores
  simp only [hb, h1, h2, hs, Expr.pos, List.filterMap_cons, List.filterMap_nil, kn, km, hl, List.head?_cons, Option.map_some, Option.getD_some, beq_self_eq_true, Bool.and_self, Bool.true_and, if_true, List.length_cons, List.length_nil, bne_self_eq_false, Bool.or_self, Bool.not_true, Bool.false_eq_true, if_false]
  simp [List.eraseDups, List.eraseDupsBy, List.eraseDupsBy.loop, hne]
  intro h
  rcases h with h | h
  · exact absurd (h.symm.trans (st x hp)) (by decide)
  · exact absurd (h.symm.trans (st y hp2)) (by decide)
theorem ss_par {i j : Nat} {n m : Str} {pn pm : Pos} {k k2 : Nat} {pt pv : Pos} (hc : X.calm = true) (hN : X.N.Nodup) (hi : X.N[i]? = some n) (hj : X.N[j]? = some m) (hij : i ≠ j) (hn : X.env.scope.names.lookup n = some .local) (hm : X.env.scope.names.lookup m = some .local)
    (ha : SE T X x (ev C a)) (hb : SE T X y (ev C b)) (hp : plainE x = true) (hp2 : plainE y = true) (hw : swappedStores [.Tuple [.Name n pn, .Name m pm] k pt] (.Tuple [x, y] k2 pv) X.env = pure (some [n, m])) (hpi : i ∉ pin) (hpj : j ∉ pin) :
    SS T X pin (.Assign [.Tuple [.Name n pn, .Name m pm] k pt] (.Tuple [x, y] k2 pv) pos) (ex C (.par i j a b)) := by
  refine (ps_par hc hN hi hj hij hn hm (pa_cons ha (pa_cons hb pa_nil (star_eq hp2 [] X.env)) (star_eq hp _ X.env)) hw).imp fun D σ H ⟨av, Γ, fl, Γ', rl, e, q⟩ => ?_
  rw [ex] at e
  obtain ⟨⟨ra, Γ1⟩, e1, e⟩ := Option.bind_eq_some_iff.mp e
  obtain ⟨⟨dx, Γ2⟩, e2, e⟩ := Option.bind_eq_some_iff.mp e
  obtain ⟨⟨rb, Γ3⟩, e3, e⟩ := Option.bind_eq_some_iff.mp e
  obtain ⟨⟨dy, Γ4⟩, e4, e⟩ := Option.bind_eq_some_iff.mp e
  have e : (if i < Γ4.length ∧ j < Γ4.length ∧ i ≠ j then some (Fl.nx, (Γ4.set i (.val dx)).set j (.val dy)) else none) = some (fl, Γ') := e
  split at e
  · rename_i hl
    cases e
    refine ⟨av, Γ, ra, Γ1, rl, e1, fun v H1 av1 P1 => ?_⟩
    obtain ⟨av2, P2⟩ := frz_ok rl P1 e2
    refine ⟨av2, Γ2, rb, Γ3, P2.rel, e3, fun w H3 av3 P3 => ?_⟩
    obtain ⟨av4, P4⟩ := frz_ok P2.rel P3 e4
    have rv : Rep T X.K H3 av4 dx v := Rep.kp (P4.fra.kp P2.rel) P2.dat
    have g1 : PostG T X.K [i] σ av Γ H (σ.set i (some v)) (Γ4.set i (.val dx)) H3 av4 := ⟨P4.rel.set hl.1 ⟨v, rfl, rv⟩ id fun _ _ z => z.elim, (P2.fra.trans rl P4.fra).set id fun _ _ z => z.elim, put_dif⟩
    have g2 : PostG T X.K [j] (σ.set i (some v)) av4 (Γ4.set i (.val dx)) H3 ((σ.set i (some v)).set j (some w)) ((Γ4.set i (.val dx)).set j (.val dy)) H3 av4 := ⟨g1.rel.set (by rw [List.length_set]; exact hl.2.1) ⟨w, rfl, P4.dat⟩ id fun _ _ z => z.elim, Fra.refl.set id fun _ _ z => z.elim, put_dif⟩
    exact ⟨v, w, rfl, q _ H3 av4 ((g1.trans rl g2).s fun k hk => by
      rcases List.mem_append.mp hk with hk | hk
      · rw [List.mem_singleton.mp hk]; exact hpi
      · rw [List.mem_singleton.mp hk]; exact hpj)⟩
  · cases e
/-! ## loops -/
theorem RRep.back {H0 H : Hp} {σ : St} {Γ : G} {av : Av} {is : List Nat} {r : R} {v : V} (h : RRep T X.K H0 σ Γ H av r v) : RRep T X.K H0 σ (Mi.back Γ is) H av r v := by
  cases r with
  | val d => exact h
  | loc i => exact h
  | fr o => obtain ⟨p, e, h1, h2, h3, h4⟩ := h; exact ⟨p, e, h1, h2, h3, fun ⟨i, z⟩ => h4 ⟨i, back_held z⟩⟩
theorem ss_for {iter : Expr} {t : Tg} {it : It} {sl : List Nat} {l : List Stmt} {m : Ss} (hpo : PassesOwn (model X.prog X.w) X.A X.env X.xe) (hc : X.calm = true) (hi : SI T X tg iter (evI C it)) (hg : SG T X tg sl (put t)) (hb : SSs T X pin l (exs C m)) (hp : ∀ i ∈ sl, i ∉ pin) (hpl : plainE iter = true) :
    SS T X pin (.For tg iter l [] pos) (ex C (.for_ t it m)) := by
  refine (ps_for hpo hc hi hg hb (notFold hpl X.env)).imp fun D σ H ⟨av, Γ, fl, Γ', rl, e, q⟩ => ?_
  rw [ex] at e
  obtain ⟨⟨ds, brs, Γ1⟩, e1, e⟩ := Option.bind_eq_some_iff.mp e
  obtain ⟨⟨fl', Γ4⟩, e2, e⟩ := Option.map_eq_some_iff.mp e
  cases e
  refine ⟨av, Γ, ds, brs, Γ1, rl, e1, fun J H1 av1 PI => ?_⟩
  obtain ⟨⟨Γp, rlp, fp, ln⟩, wk⟩ := PI
  have rl1 : Rel T X.K av1 Γ1 σ H1 := ln.rel rlp
  let turn : Mi.D → G → Option (Fl × G) := fun d Γ2 => (put t d Γ2).bind fun Γ3 => exs C m Γ3
  let W : Nat → Nat → St → Hp → Prop := fun i n σ2 H2 => n + i = ds.length ∧ ∃ av2 Γ2, PostS T X.K pin σ av1 Γ1 H1 σ2 Γ2 H2 av2 ∧ forL turn (ds.drop i) Γ2 = some (fl, Γ4)
  -- the end
  have fin : ∀ σ2 H2 av2 Γ2 f, PostS T X.K pin σ av1 Γ1 H1 σ2 Γ2 H2 av2 → f = fl → Γ2 = Γ4 → EndsD T X.K D H f σ2 (Mi.back Γ2 brs) H2 av2 := fun σ2 H2 av2 Γ2 f P ef eg => by
    subst ef eg
    obtain ⟨r8, f8⟩ := ln.back rlp P.fra P.rel
    exact q σ2 H2 av2 ⟨r8, fp.trans rl f8, P.pin⟩
  refine ⟨W, ⟨ds.length, by simp, av1, Γ1, .refl rl1, e2⟩, ?_⟩
  rintro i n σ2 H2 ⟨hm, av2, Γ2, P, e3⟩
  obtain ⟨wstop, wgo⟩ := wk σ2 Γ2 av2 H2 P.rel P.fra i
  by_cases hi : i < ds.length
  · right
    have hd : ds[i]? = some ds[i] := List.getElem?_eq_getElem hi
    obtain ⟨go, yld⟩ := wgo _ hd
    have hdr : ds.drop i = ds[i] :: ds.drop (i + 1) := List.drop_eq_getElem_cons hi
    rw [hdr, forL] at e3
    obtain ⟨⟨f, Γ5⟩, e4, e3⟩ := Option.bind_eq_some_iff.mp e3
    refine ⟨go, fun σ' H' => W (i + 1) (n - 1) σ' H', fun σ' H' w => ⟨n - 1, by omega, w⟩, fun x H3 yy => ?_⟩
    obtain ⟨r3, f3, rx3⟩ := yld x H3 yy
    obtain ⟨Γ3, g1, g2⟩ := Option.bind_eq_some_iff.mp e4
    refine ⟨av2, Γ2, ds[i], Γ3, r3, rx3, g1, fun σ4 H4 av4 P4 => ⟨av4, Γ3, f, Γ5, P4.rel, g2, fun σ5 H5 av5 P5 => ?_⟩⟩
    have f35 : Fra σ2 Γ2 av2 H2 σ5 Γ5 av5 H5 := (f3.trans P.rel P4.fra).trans P.rel P5.fra
    have PP : PostS T X.K pin σ av1 Γ1 H1 σ5 Γ5 H5 av5 := ⟨P5.rel, P.fra.trans rl1 f35, fun j hj => (P5.pin j hj).trans ((P4.dif j fun z => hp j z hj).trans (P.pin j hj))⟩
    cases f with
    | nx => exact ⟨by omega, av5, Γ5, PP, e3⟩
    | ct => exact ⟨by omega, av5, Γ5, PP, e3⟩
    | bk => cases e3; exact fin σ5 H5 av5 _ _ PP rfl rfl
    | rt r =>
      cases e3
      exact fun v hv => fin σ5 H5 av5 _ _ PP rfl rfl v ((hv.older fun a h => fp.free (P.fra.free (f3.free (P4.fra.free h)))).back)
  · left
    have hdr : ds.drop i = [] := List.drop_eq_nil_of_le (by omega)
    rw [hdr, forL] at e3
    cases e3
    exact ⟨wstop (by omega) (by omega), fin σ2 H2 av2 _ _ P rfl rfl⟩
theorem ss_whl {l : List Stmt} {m : Ss} (hpo : PassesOwn (model X.prog X.w) X.A X.env X.xe) (hcd : ST T X z (evT C c)) (hb : SSs T X pin l (exs C m)) : SS T X pin (.While z l [] pos) (ex C (.whl c m)) := by
  refine (ps_while hpo hcd.pt hb).imp fun D σ H ⟨av, Γ, fl, Γ', rl, e, q⟩ => ?_
  rw [ex] at e
  let W : Nat → St → Hp → Prop := fun n σ2 H2 => ∃ av2 Γ2, PostS T X.K pin σ av Γ H σ2 Γ2 H2 av2 ∧ whlL (fun Γ1 => evT C c Γ1) (fun Γ1 => exs C m Γ1) n Γ2 = some (fl, Γ')
  refine ⟨W, ⟨C.wf, av, Γ, .refl rl, e⟩, ?_⟩
  rintro n σ2 H2 ⟨av2, Γ2, P, e2⟩
  cases n with
  | zero => rw [whlL] at e2; cases e2
  | succ n =>
    rw [whlL] at e2
    obtain ⟨⟨t, Γ3⟩, e3, e2⟩ := Option.bind_eq_some_iff.mp e2
    refine ⟨av2, Γ2, t, Γ3, P.rel, e3, fun H3 av3 P3 => ?_⟩
    cases t with
    | false =>
      cases e2
      exact q σ2 H3 av3 (P.trans rl P3.s)
    | true =>
      simp only [if_true] at e2 ⊢
      obtain ⟨⟨f, Γ5⟩, e4, e2⟩ := Option.bind_eq_some_iff.mp e2
      refine ⟨W n, fun σ' H' w => ⟨n, by omega, w⟩, av3, Γ3, f, Γ5, P3.rel, e4, fun σ5 H5 av5 P5 => ?_⟩
      have PP := (P.trans rl P3.s).trans rl P5
      cases f with
      | nx => exact ⟨av5, Γ5, PP, e2⟩
      | ct => exact ⟨av5, Γ5, PP, e2⟩
      | bk => cases e2; exact q σ5 H5 av5 PP
      | rt r =>
        cases e2
        exact fun v hv => q σ5 H5 av5 PP v (hv.older fun a h => P.fra.free (P3.fra.free h))
end
end Mi

namespace Mi
open PySem PySem.Spec L2
open PyProof.Rows hiding St

/-! ## does a term stand for a written expression -/
def sq (x y : Str) : Bool := x.cps.toList == y.cps.toList
theorem sq_eq {x y : Str} (h : sq x y = true) : x = y := by
  obtain ⟨⟨a⟩⟩ := x
  obtain ⟨⟨b⟩⟩ := y
  have : a = b := by simpa [sq] using h
  rw [this]
theorem sq_self (x : Str) : sq x x = true := by simp [sq]
theorem sq_beq (x y : Str) : (x == y) = sq x y := by
  by_cases h : x = y
  · subst h; rw [sq_self, beq_self_eq_true]
  · have h1 : (x == y) = false := beq_eq_false_iff_ne.mpr h
    rw [h1]
    cases h2 : sq x y with
    | false => rfl
    | true => exact absurd (sq_eq h2) h
def lkS : List (Str × NameKind) → Str → Option NameKind
  | [], _ => none
  | (n, k) :: r, x => if sq x n then some k else lkS r x
theorem lkS_eq : ∀ (l : List (Str × NameKind)) (x : Str), lkS l x = l.lookup x
  | [], _ => rfl
  | (n, k) :: r, x => by
    rw [lkS, List.lookup_cons, lkS_eq r x, sq_beq]
    cases sq x n <;> rfl
/-- what is known of a text's place -/
structure Stat where
  N : List Str
  pin : List Nat
  sc : Scope
  fnc : Bool
  fns : List FI
  gls : List (Nat × Str)
  cls : List (Nat × List Str) := []
  mts : List MI := []
  mks : List MI := []
  kds : List (Nat × Str) := []
  lns : List MI := []
def slotB (st : Stat) (i : Nat) (x : Str) : Bool := match st.N[i]? with
  | some y => sq y x
  | none => false
def visB (st : Stat) (x : Str) : Bool := match lkS st.sc.names x with
  | some .local => true
  | some .cell => true
  | some .free => true
  | _ => false
def locB (st : Stat) (x : Str) : Bool := match lkS st.sc.names x with
  | some .local => true
  | _ => false
def stoB (st : Stat) (x : Str) : Bool := match lkS st.sc.names x with
  | some .local => true
  | some .cell => st.fnc
  | _ => false
def glB (st : Stat) (x : Str) : Bool := match lkS st.sc.names x with
  | some .globalImplicit => true
  | _ => false
def okN (x : Str) : Bool := !sq x "__debug__" && !sq x "__classdict__" && !sq x "__name__"
def bltL : List Str := ["len", "abs", "max", "min", "int", "bool", "str", "sum", "all", "any", "list", "tuple", "dict", "isinstance", "range", "zip", "enumerate", "reversed", "repr", "sorted"]
def bltB (x : Str) : Bool := bltL.any (sq x)
def conB : D → Const → Bool
  | .non, .none => true
  | .bl a, .bool b => a == b
  | .int i, .int j => i == j
  | .str x, .str y => sq x y
  | _, _ => false
def dEq : D → D → Bool
  | .non, .non => true
  | .bl a, .bl b => a == b
  | .int i, .int j => i == j
  | .str x, .str y => sq x y
  | .tup [], .tup [] => true
  | _, _ => false
theorem dEq_eq {a b : D} (h : dEq a b = true) : a = b := by
  unfold dEq at h
  split at h
  · rfl
  · rw [eq_of_beq h]
  · rw [eq_of_beq h]
  · rw [sq_eq h]
  · rfl
  · cases h
def srcEq : List Src → List Src → Bool
  | [], [] => true
  | .arg i :: a, .arg j :: b => i == j && srcEq a b
  | .con d :: a, .con e :: b => dEq d e && srcEq a b
  | _, _ => false
theorem srcEq_eq : ∀ {a b : List Src}, srcEq a b = true → a = b
  | [], [], _ => rfl
  | .arg i :: a, .arg j :: b, h => by
    rw [srcEq, Bool.and_eq_true] at h
    rw [eq_of_beq h.1, srcEq_eq h.2]
  | .con d :: a, .con e :: b, h => by
    rw [srcEq, Bool.and_eq_true] at h
    rw [dEq_eq h.1, srcEq_eq h.2]
  | [], .arg _ :: _, h => by cases h
  | [], .con _ :: _, h => by cases h
  | .arg _ :: _, [], h => by cases h
  | .con _ :: _, [], h => by cases h
  | .arg _ :: _, .con _ :: _, h => by cases h
  | .con _ :: _, .arg _ :: _, h => by cases h
def ksB : List Str → List Keyword → Bool
  | [], [] => true
  | k :: ks, ⟨some n, _, _⟩ :: kws => sq n k && ksB ks kws
  | _, _ => false
theorem ksB_eq : ∀ {ks : List Str} {kws : List Keyword}, ksB ks kws = true → kws.map (·.arg) = ks.map some
  | [], [], _ => rfl
  | k :: ks, ⟨some n, _, _⟩ :: kws, h => by
    rw [ksB, Bool.and_eq_true] at h
    rw [List.map_cons, List.map_cons, ksB_eq h.2, sq_eq h.1]
  | [], _ :: _, h => by cases h
  | _ :: _, [], h => by cases h
  | _ :: _, ⟨none, _, _⟩ :: _, h => by cases h
def Stat.blk (st : Stat) (scope : Scope) : Stat := { st with sc := relS scope st.sc, fnc := false }
def ownOf (N : List Str) (own : List Nat) : List (Str × Nat) := own.filterMap fun i => N[i]?.map fun n => (n, i)
mutual
def chkG : Tg → Stat → Expr → Bool
  | .nm i, st, x => match x with
    | .Name n _ => slotB st i n && stoB st n
    | _ => false
  | .tup ts, st, x => match x with
    | .Tuple xs _ _ => chkGs ts st xs && xs.all plainE
    | _ => false
  | .star pre i, st, x => match x with
    | .Tuple xs _ _ => chkS pre i st xs
    | _ => false
def chkGs : List Tg → Stat → List Expr → Bool
  | [], _, xs => xs.isEmpty
  | t :: ts, st, xs => match xs with
    | x :: xs => chkG t st x && chkGs ts st xs
    | [] => false
def chkS : List Nat → Nat → Stat → List Expr → Bool
  | [], i, st, xs => match xs with
    | [.Starred (.Name n _) _] => slotB st i n && stoB st n
    | _ => false
  | j :: pre, i, st, xs => match xs with
    | .Name n _ :: xs => slotB st j n && stoB st n && chkS pre i st xs
    | _ => false
end
def mtN : Mt → Str
  | .join => "join"
  | .index => "index"
  | .tindex => "index"
mutual
def chkE : E → Stat → Expr → Bool
  | .var i, st, x => match x with
    | .Name n _ => slotB st i n && visB st n && okN n
    | _ => false
  | .con d, _, x => match x with
    | .Constant c _ _ => conB d c
    | _ => false
  | .glb g, st, x => match x with
    | .Name n _ => glB st n && okN n && st.gls.any fun p => p.1 == g && sq p.2 n
    | _ => false
  | .bin op a b, st, x => match x with
    | .BinOp l op' r _ => decide (op = op') && chkE a st l && chkE b st r
    | _ => false
  | .neg a, st, x => match x with
    | .UnaryOp .USub l _ => chkE a st l
    | _ => false
  | .not_ a, st, x => match x with
    | .UnaryOp .Not l _ => chkE a st l
    | _ => false
  | .cmp op a b, st, x => match x with
    | .Compare l [op'] [r] _ => decide (op = op') && chkE a st l && chkE b st r && plainE r
    | _ => false
  | .chn o1 o2 a b c, st, x => match x with
    | .Compare l [p1, p2] [r, t] _ => decide (o1 = p1) && decide (o2 = p2) && chkE a st l && chkE b st r && chkE c st t && plainE t
    | _ => false
  | .and_ a b, st, x => match x with
    | .BoolOp .And (l :: r :: rs) p => chkE a st l && chkE b st (boolR .And r rs p)
    | _ => false
  | .or_ a b, st, x => match x with
    | .BoolOp .Or (l :: r :: rs) p => chkE a st l && chkE b st (boolR .Or r rs p)
    | _ => false
  | .ite c a b, st, x => match x with
    | .IfExp t l r _ => chkE c st t && chkE a st l && chkE b st r
    | _ => false
  | .tup es, st, x => match x with
    | .Tuple xs _ _ => chkA es st xs && decide (es.len ≤ 1000)
    | _ => false
  | .lst es, st, x => match x with
    | .List xs _ => chkA es st xs && decide (es.len ≤ 1000)
    | _ => false
  | .idx a i, st, x => match x with
    | .Subscript l r _ => chkE a st l && chkE i st r && plainE r
    | _ => false
  | .slc a lo hi, st, x => match x with
    | .Subscript l (.Slice xl xh none _) _ => chkE a st l && chkO lo st xl && chkO hi st xh
    | _ => false
  | .slx a lo hi k, st, x => match x with
    | .Subscript l (.Slice xl xh (some y) _) _ => chkE a st l && chkO lo st xl && chkO hi st xh && chkE k st y
    | _ => false
  | .emp, _, x => match x with
    | .Dict [] [] _ => true
    | _ => false
  | .dsp ks es, st, x => match x with
    | .Dict keys vals _ => chkD es ks st keys vals && !keys.isEmpty && decide (keys.length ≤ 15)
    | _ => false
  | .cal f acc es acc2 ks src, st, x => match x with
    | .Call (.Name n _) xs kws _ => chkA es st xs && chkK ks st kws && glB st n && okN n && st.fns.any fun p => p.f == f && sq n p.nm && p.n == es.len && p.ks.length == ks.len && ksB p.ks kws && srcEq p.src src
    | _ => false
  | .bi b es, st, x => match x with
    | .Call (.Name n _) (y :: ys) [] _ => chkA es st (y :: ys) && decide (b ≠ .sum2) && sq n (biN b) && glB st n && bltB n
    | .Call (.Name n _) [y] [⟨some kn, z, _⟩] _ => chkA es st [y, z] && decide (b = .sum2) && sq n "sum" && sq kn "start" && glB st n && bltB n
    | _ => false
  | .mth m a es, st, x => match x with
    | .Call (.Attribute l n ap) [y] [] p => chkE a st l && chkA es st [y] && sq n (mtN m) && baseE l && (ap.endLine == p.line)
    | _ => false
  | .mmt m a es, st, x => match x with
    | .Call (.Attribute l n ap) (y :: ys) [] p => chkE a st l && chkA es st (y :: ys) && sq n (mmN m) && !mm0 m && baseE l && (ap.endLine == p.line) && decide ((y :: ys).length < 30)
    | .Call (.Attribute l n ap) [] [] p => chkE a st l && chkA es st [] && sq n (mmN m) && mm0 m && baseE l && (ap.endLine == p.line)
    | _ => false
  | .isi a ts, st, x => match x with
    | .Call (.Name n _) [y, .Name tn _] [] _ => chkE a st y && plainE y && sq n "isinstance" && glB st n && bltB n && glB st tn && bltB tn && (match ts with
      | [t] => sq tn (tyN t)
      | _ => false)
    | _ => false
  | .fld a c j, st, x => match x with
    | .Attribute y n _ => chkE a st y && baseE y && st.cls.any fun p => p.1 == c && (match p.2[j]? with
      | some m => sq n m
      | none => false)
    | _ => false
  | .mcl c f acc a es src, st, x => match x with
    | .Call (.Attribute l m ap) xs [] p => chkE a st l && baseE l && chkA es st xs && (ap.endLine == p.line) && decide (xs.length < 30) && st.mts.any fun p => p.c == c && p.fi.f == f && sq m p.fi.nm && p.fi.ks.isEmpty && p.fi.n == es.len + 1 && srcEq p.fi.src src
    | _ => false
  | .mk c f acc es acc2 ks src, st, x => match x with
    | .Call (.Name n _) xs kws _ => chkA es st xs && chkK ks st kws && glB st n && okN n && st.mks.any fun p => p.c == c && p.fi.f == f && sq n p.fi.nm && p.fi.n == es.len + 1 && p.fi.ks.length == ks.len && ksB p.fi.ks kws && srcEq p.fi.src src
    | _ => false
  | .kget g a, st, x => match x with
    | .Call (.Attribute (.Name n _) m ap) [y] [] p => sq m "get" && chkE a st y && plainE y && (ap.endLine == p.line) && glB st n && okN n && st.kds.any fun p => p.1 == g && sq n p.2
    | _ => false
  | .kgd g a d, st, x => match x with
    | .Call (.Attribute (.Name n _) m ap) [y, .Constant c _ _] [] p => sq m "get" && chkE a st y && plainE y && (ap.endLine == p.line) && glB st n && okN n && conB d c && st.kds.any fun p => p.1 == g && sq n p.2
    | _ => false
  | .kin g ng a, st, x => match x with
    | .Compare l [op] [.Name n _] _ => decide (op = kinOp ng) && chkE a st l && glB st n && okN n && st.kds.any fun p => p.1 == g && sq n p.2
    | _ => false
  | .dget a k d, st, x => match x with
    | .Call (.Attribute o m ap) [y, .Constant c _ _] [] p => sq m "get" && chkE a st o && baseE o && chkE k st y && plainE y && (ap.endLine == p.line) && conB d c
    | _ => false
  | .trev a, st, x => match x with
    | .Call (.Name n1 _) [.Call (.Name n2 _) [y] [] _] [] _ => sq n1 "tuple" && sq n2 "reversed" && chkE a st y && plainE y && glB st n1 && bltB n1 && glB st n2 && bltB n2
    | _ => false
  | .lno c f a, st, x => match x with
    | .Call (.Name n _) [y] [] _ => chkE a st y && plainE y && sq n "len" && glB st n && bltB n && st.lns.any fun p => p.c == c && p.fi.f == f && sq p.fi.nm "__len__" && p.fi.n == 1 && p.fi.ks.isEmpty && srcEq p.fi.src [.arg 0]
    | _ => false
  | .cpr own t it c e, st, x => match x with
    | .ListComp elt [⟨tg, iter, ifs, k⟩] scope _ => k == 0 && decide ((ownOf st.N own).map (·.2) = own) && blkC st.N st.sc scope (ownOf st.N own) && plainE iter && chkI it st tg iter && chkG t (st.blk scope) tg && t.slots.all (fun i => own.contains i) && chkC c (st.blk scope) ifs && chkE e (st.blk scope) elt
    | _ => false
def chkA : Es → Stat → List Expr → Bool
  | .nil, _, xs => xs.isEmpty
  | .cons e es, st, xs => match xs with
    | x :: xs => plainE x && chkE e st x && chkA es st xs
    | [] => false
def chkD : Es → List Key → Stat → List (Option Expr) → List Expr → Bool
  | .nil, ks, _, xs, vs => ks.isEmpty && xs.isEmpty && vs.isEmpty
  | .cons e es, ks, st, xs, vs => match ks, xs, vs with
    | k :: ks, some (.Constant c _ _) :: xs, v :: vs => keyB k c && chkE e st v && chkD es ks st xs vs
    | _, _, _ => false
def chkK : Es → Stat → List Keyword → Bool
  | .nil, _, xs => xs.isEmpty
  | .cons e es, st, xs => match xs with
    | ⟨_, x, _⟩ :: xs => chkE e st x && chkK es st xs
    | [] => false
def chkO : Eo → Stat → Option Expr → Bool
  | .non, _, x => x.isNone
  | .som e, st, x => match x with
    | some x => chkE e st x
    | none => false
def chkC : Eo → Stat → List Expr → Bool
  | .non, _, x => x.isEmpty
  | .som e, st, x => match x with
    | [x] => chkE e st x
    | _ => false
def chkI : It → Stat → Expr → Expr → Bool
  | .seq e, st, _, x => chkE e st x
  | .rng1 a, st, _, x => match x with
    | .Call (.Name n _) [y] [] _ => chkE a st y && plainE y && sq n "range" && glB st n && bltB n
    | _ => false
  | .rng2 a b, st, _, x => match x with
    | .Call (.Name n _) [y, z] [] _ => chkE a st y && chkE b st z && plainE y && plainE z && sq n "range" && glB st n && bltB n
    | _ => false
  | .rng3 a b c, st, _, x => match x with
    | .Call (.Name n _) [y, z, u] [] _ => chkE a st y && chkE b st z && chkE c st u && plainE y && plainE z && plainE u && sq n "range" && glB st n && bltB n
    | _ => false
  | .zip a b, st, tg, x => match tg with
    | .Tuple _ _ _ => match x with
      | .Call (.Name n _) [y, z] [] _ => chkE a st y && chkE b st z && plainE y && plainE z && sq n "zip" && glB st n && bltB n
      | _ => false
    | _ => false
  | .enu a, st, tg, x => match tg with
    | .Tuple _ _ _ => match x with
      | .Call (.Name n _) [y] [] _ => chkE a st y && plainE y && sq n "enumerate" && glB st n && bltB n
      | _ => false
    | _ => false
  | .rev a, st, _, x => match x with
    | .Call (.Name n _) [y] [] _ => chkE a st y && plainE y && sq n "reversed" && glB st n && bltB n
    | _ => false
end
/-! ## what is known of the place -/
structure XOk (T : Cls2) (C : Ctx) (st : Stat) (X : Cx) : Prop where
  n : X.N = st.N
  nd : X.N.Nodup
  sc : X.env.scope = st.sc
  calm : X.calm = true
  fn : st.fnc = true → ∀ x, X.fn x = true
  un : X.A.units + 64 < cLine
  gd : X.A.guards = some []
  xe : X.xe = fun _ _ => False
  kind : X.env.scope.kind = .function
  blt : ∀ x, bltB x = true → X.mg x = none
  fns : ∀ p ∈ st.fns, FnC T C X.prog X.w X.K X.mg X.base X.A p
  gls : ∀ p ∈ st.gls, ∃ v u, X.mg p.2 = some u ∧ RelV v u ∧ ∀ H av, Rep T X.K H av (C.gl p.1) v
  cls : ∀ p ∈ st.cls, T.flds p.1 = p.2 ∧ ClC T X.K p.1
  mts : ∀ p ∈ st.mts, MtC T C X.prog X.w X.K X.mg X.base X.A p
  mks : ∀ p ∈ st.mks, MkC T C X.prog X.w X.K X.mg X.base X.A p ∧ p.fi.src[0]? = some (.arg 0)
  kds : ∀ p ∈ st.kds, ∃ d, X.mg p.2 = some (.ref d) ∧ KdOk T X.K X.w d (C.kd p.1)
  lns : ∀ p ∈ st.lns, LnC T C X.prog X.w X.K X.mg X.base X.A p
section
variable {T : Cls2} {C : Ctx} {st : Stat} {X : Cx}
theorem XOk.po (k : XOk T C st X) : PassesOwn (model X.prog X.w) X.A X.env X.xe := by rw [k.xe]; exact PassesOwn.never
theorem XOk.slot (k : XOk T C st X) {i : Nat} {x : Str} (h : slotB st i x = true) : X.N[i]? = some x := by
  rw [k.n]
  unfold slotB at h
  split at h
  · rename_i y hy; rw [hy, sq_eq h]
  · cases h
theorem XOk.vis (k : XOk T C st X) {x : Str} (h : visB st x = true) : Vis X.env.scope x := by
  unfold visB at h
  rw [lkS_eq] at h
  unfold Vis
  rw [k.sc]
  split at h
  · rename_i e; exact .inl e
  · rename_i e; exact .inr (.inl e)
  · rename_i e; exact .inr (.inr e)
  · cases h
theorem XOk.loc (k : XOk T C st X) {x : Str} (h : locB st x = true) : X.env.scope.names.lookup x = some .local := by
  unfold locB at h
  rw [lkS_eq] at h
  rw [k.sc]
  split at h
  · rename_i e; exact e
  · cases h
theorem XOk.sto (k : XOk T C st X) {x : Str} (h : stoB st x = true) : L2.Loc X.env.scope x ∧ (X.fn x = true ∨ X.env.scope.names.lookup x = some .local) := by
  unfold stoB at h
  rw [lkS_eq] at h
  unfold L2.Loc
  rw [k.sc]
  split at h
  · rename_i e; exact ⟨.inl e, .inr e⟩
  · rename_i e; exact ⟨.inr e, .inl (k.fn h x)⟩
  · cases h
theorem XOk.gl (k : XOk T C st X) {x : Str} (h : glB st x = true) : Gl X x := by
  unfold glB at h
  rw [lkS_eq] at h
  show X.env.scope.names.lookup x = some .globalImplicit
  rw [k.sc]
  split at h
  · rename_i e; exact e
  · cases h
theorem okN_d {x : Str} (h : okN x = true) : (x == ("__debug__" : Str)) = false ∧ (x == ("__classdict__" : Str)) = false := by
  unfold okN at h
  simp only [Bool.and_eq_true, Bool.not_eq_true'] at h
  exact ⟨by rw [sq_beq]; exact h.1.1, by rw [sq_beq]; exact h.1.2⟩
theorem XOk.blk (k : XOk T C st X) (scope : Scope) (hk : scope.kind = .function) (s : Shared) (H : Hp) (cd : Addr) (cl : List (Str × Addr)) (fp : List Addr) : XOk T C (st.blk scope) (X.blk s H scope (compEnvC scope cl cd X.env) fp) :=
  ⟨k.n, k.nd, by show relS scope X.env.scope = _; rw [k.sc]; rfl, k.calm, (fun (z : false = true) => nomatch z), k.un, k.gd, rfl, hk, k.blt, k.fns, k.gls, k.cls, k.mts, k.mks, k.kds, k.lns⟩
end
/-! ## THE LAW OF TERMS: what stands for an expression is what it does -/
section
variable {T : Cls2} {C : Ctx}
theorem plain_of_chkA : ∀ {es : Es} {st : Stat} {xs : List Expr}, chkA es st xs = true → xs.all plainE = true ∧ xs.length = es.len
  | .nil, _, [], _ => ⟨rfl, rfl⟩
  | .nil, _, _ :: _, h => by rw [chkA] at h; cases h
  | .cons e es, st, [], h => by rw [chkA] at h; cases h
  | .cons e es, st, x :: xs, h => by
    rw [chkA] at h
    simp only [Bool.and_eq_true] at h
    obtain ⟨h1, h2⟩ := plain_of_chkA h.2
    exact ⟨by rw [List.all_cons, h.1.1, h1]; rfl, by rw [List.length_cons, h2]; rfl⟩
theorem ownOf_ok {N : List Str} {own : List Nat} : (∀ p ∈ ownOf N own, N[p.2]? = some p.1) := by
  intro p hp
  unfold ownOf at hp
  obtain ⟨i, _, h⟩ := List.mem_filterMap.mp hp
  obtain ⟨n, h1, h2⟩ := Option.map_eq_some_iff.mp h
  subst h2
  exact h1
theorem conB_rep {c : Const} {d : D} {X : Cx} {k : Nat} {pos : Pos} (h : conB d c = true) : SE T X (.Constant c k pos) (ev C (.con d)) := by
  have key : SE T X (.Constant c k pos) (fun Γ => some (.val d, Γ)) := by
    unfold conB at h
    split at h
    · exact se_val pe_non fun _ _ => rnon
    · rw [eq_of_beq h]; exact se_val pe_bl fun _ _ => rbl
    · rw [eq_of_beq h]; exact se_val pe_int fun _ _ => rint
    · rw [sq_eq h]; exact se_val pe_str fun _ _ => rstr
    · cases h
  exact key.imp fun σ H Q q => q
theorem chkGs_len : ∀ {ts : List Tg} {st : Stat} {xs : List Expr}, chkGs ts st xs = true → xs.length = ts.length
  | [], _, [], _ => rfl
  | [], _, _ :: _, h => by rw [chkGs] at h; cases h; all_goals simp
  | t :: ts, st, [], h => by rw [chkGs] at h; cases h; all_goals simp
  | t :: ts, st, x :: xs, h => by
    rw [chkGs, Bool.and_eq_true] at h
    rw [List.length_cons, List.length_cons, chkGs_len h.2]
theorem chkS_at {X : Cx} {st : Stat} (k : XOk T C st X) : ∀ {pre : List Nat} {i : Nat} {xs : List Expr}, chkS pre i st xs = true → ∃ es n np sp, xs = es ++ [.Starred (.Name n np) sp] ∧ NmAt X es pre ∧ slotB st i n = true ∧ stoB st n = true
  | [], i, xs, h => by
    rw [chkS.eq_def] at h
    simp only at h
    split at h
    · rw [Bool.and_eq_true] at h
      exact ⟨[], _, _, _, rfl, .nil, h.1, h.2⟩
    · cases h
  | j :: pre, i, xs, h => by
    rw [chkS.eq_def] at h
    simp only at h
    split at h
    · simp only [Bool.and_eq_true] at h
      obtain ⟨es, n, np, sp, rfl, h1, h2, h3⟩ := chkS_at k h.2
      obtain ⟨g1, g2⟩ := k.sto h.1.2
      exact ⟨_ :: es, n, np, sp, rfl, .cons (k.slot h.1.1) g1 g2 h1, h2, h3⟩
    · cases h
mutual
theorem sndG : ∀ (t : Tg) (st : Stat) (X : Cx) (x : Expr), XOk T C st X → chkG t st x = true → SG T X x t.slots (put t)
  | .nm i, st, X, x, k, h => by
    rw [chkG.eq_def] at h
    simp only at h
    split at h
    · rw [Bool.and_eq_true] at h
      obtain ⟨g1, g2⟩ := k.sto h.2
      have : (Tg.nm i).slots = [i] := by rw [Tg.slots]
      rw [this]
      exact sg_nm k.nd (k.slot h.1) g1 g2
    · cases h
  | .tup ts, st, X, x, k, h => by
    rw [chkG.eq_def] at h
    simp only at h
    split at h
    · rw [Bool.and_eq_true] at h
      have : (Tg.tup ts).slots = slotsL ts := by rw [Tg.slots]
      rw [this]
      exact sg_tup k.calm (sndGs ts st X _ k h.1) h.2 (chkGs_len h.1)
    · cases h
  | .star pre i, st, X, x, k, h => by
    rw [chkG.eq_def] at h
    simp only at h
    split at h
    · obtain ⟨es, n, np, sp, rfl, h1, h2, h3⟩ := chkS_at k h
      obtain ⟨g1, g2⟩ := k.sto h3
      have : (Tg.star pre i).slots = pre ++ [i] := by rw [Tg.slots]
      rw [this]
      exact sg_star k.calm k.nd h1 (k.slot h2) g1 g2
    · cases h
theorem sndGs : ∀ (ts : List Tg) (st : Stat) (X : Cx) (xs : List Expr), XOk T C st X → chkGs ts st xs = true → SGs T X xs (slotsL ts) (puts ts)
  | [], st, X, xs, k, h => by
    cases xs with
    | nil => rw [slotsL]; exact sgs_nil
    | cons _ _ => rw [chkGs] at h; cases h; all_goals simp
  | t :: ts, st, X, xs, k, h => by
    cases xs with
    | nil => rw [chkGs] at h; cases h; all_goals simp
    | cons x xs =>
      rw [chkGs, Bool.and_eq_true] at h
      rw [slotsL]
      have hp : plainE x = true := by
        cases t <;> (have h1 := h.1; rw [chkG.eq_def] at h1; simp only at h1; split at h1 <;> first | rfl | cases h1)
      exact sgs_cons (sndG t st X x k h.1) (sndGs ts st X xs k h.2) hp
end
end
end Mi

namespace Mi
open PySem PySem.Spec L2
open PyProof.Rows hiding St

section
variable {T : Cls2} {C : Ctx}
theorem se_glb {X : Cx} {st : Stat} {g : Nat} {n : Str} {pos : Pos} (k : XOk T C st X) (hg : glB st n = true) (ho : okN n = true) (h : (st.gls.any fun p => p.1 == g && sq p.2 n) = true) : SE T X (.Name n pos) (ev C (.glb g)) := by
  obtain ⟨p, hp, h2⟩ := List.any_eq_true.mp h
  rw [Bool.and_eq_true] at h2
  obtain ⟨v, u, h3, h4, h5⟩ := k.gls p hp
  have e1 : p.1 = g := eq_of_beq h2.1
  have e2 : p.2 = n := sq_eq h2.2
  subst e1 e2
  exact (se_val (pe_glob (k.gl hg) h3 h4 (okN_d ho).1) h5).imp fun σ H Q q => q
theorem se_cpr {X : Cx} {st : Stat} {own : List Nat} {t : Tg} {it : It} {c : Eo} {e : E} {elt tg iter : Expr} {ifs : List Expr} {scope : Scope} (k : XOk T C st X) (hown : (ownOf st.N own).map (·.2) = own) (hb : blkC st.N st.sc scope (ownOf st.N own) = true) (hpl : plainE iter = true)
    (hi : SI T X tg iter (evI C it)) (hg : ∀ X', XOk T C (st.blk scope) X' → SG T X' tg t.slots (put t)) (hc : ∀ X', XOk T C (st.blk scope) X' → SC T X' ifs (evC C c)) (he : ∀ X', XOk T C (st.blk scope) X' → SE T X' elt (ev C e)) (hsl : t.slots.all (fun i => own.contains i) = true) :
    (∀ pos, SE T X (.ListComp elt [⟨tg, iter, ifs, 0⟩] scope pos) (ev C (.cpr own t it c e))) ∧
    (∀ pin i n p1 pos spos, XOk T C st X → slotB st i n = true → locB st n = true → i ∉ pin → swapsWith (.ListComp elt [⟨tg, iter, ifs, 0⟩] scope pos) (some (.Name n p1)) spos.line X.env = pure true →
      SS T X pin (.Assign [.Name n p1] (.ListComp elt [⟨tg, iter, ifs, 0⟩] scope pos) spos) (ex C (.asg (.nm i) (.cpr own t it c e)))) := by
  have ok : BlkOk X.N X.env.scope scope (ownOf st.N own) := by
    rw [k.n, k.sc]
    exact blkOk_by hb
  have hk : scope.kind = .function := ok.kind
  have hs : ∀ i ∈ t.slots, i ∈ own := fun i hi => by
    have := List.all_eq_true.mp hsl i hi
    exact List.contains_iff_mem.mp this
  refine ⟨fun pos => ?_, fun pin i n p1 pos spos k' h1 h2 h3 h4 => ?_⟩
  · have key := pe_lc (elt := elt) (te := tE T X.K (ev C e)) (tt := tT T X.K (evC C c)) (g := tG T X.K (isTup tg) t.slots (put t)) (pos := pos) k.calm k.nd hi ok (fun s H cd cl fp => hg _ (k.blk scope hk s H cd cl fp)) (fun s H cd cl fp => hc _ (k.blk scope hk s H cd cl fp)) (fun s H cd cl fp => he _ (k.blk scope hk s H cd cl fp)) (notFold hpl X.env)
    rw [hown] at key
    exact key.imp fun σ H Q q => lc_read hs q
  · have key := ps_setLc (elt := elt) (te := tE T X.K (ev C e)) (tt := tT T X.K (evC C c)) (g := tG T X.K (isTup tg) t.slots (put t)) (spos := spos) k.calm k.nd (k.slot h1) (k.loc h2) h4 hi ok (fun s H cd cl fp => hg _ (k.blk scope hk s H cd cl fp)) (fun s H cd cl fp => hc _ (k.blk scope hk s H cd cl fp)) (fun s H cd cl fp => he _ (k.blk scope hk s H cd cl fp)) (notFold hpl X.env)
    rw [hown] at key
    refine key.imp fun D σ H q => ?_
    have := ss_set_read (T := T) (C := C) h3 q
    obtain ⟨av, Γ, r, Γ', rl, e1, q1⟩ := this
    exact lc_read hs ⟨av, Γ, r, Γ', rl, e1, q1⟩
/-- a test by its value -/
def trT (f : G → Option (R × G)) (Γ : G) : Option (Bool × G) := (f Γ).bind fun (r, Γ1) => (look Γ1 r).bind fun d => (tru d).map fun b => (b, Γ1)
theorem st_val {X : Cx} {x : Expr} {m : E} (ha : SE T X x (ev C m)) (he : ∀ whole, isTrue x X.env whole = (do let v ← whole; standAt x.pos; holding [v] (truthy v))) (hn : ∀ op l p, x ≠ .BoolOp op l p) (hv : ∀ Γ, evT C m Γ = trT (ev C m) Γ) : ST T X x (evT C m) := by
  have : evT C m = trT (ev C m) := funext hv
  rw [this]
  exact .of (st_truth ha he) hn
theorem st_no {X : Cx} {x : Expr} {f : G → Option (Bool × G)} (h : ∀ Γ, f Γ = none) : ST T X x f := ⟨st_none h, fun op l p z => ⟨fun wh pins s σ H Q I ⟨av, Γ, b, Γ', rl, e, q⟩ => by rw [h] at e; cases e⟩⟩
theorem vt_var {i : Nat} (Γ : G) : evT C (.var i) Γ = trT (ev C (.var i)) Γ := by
  unfold trT
  rw [evT, ev]
  cases geti Γ i <;> rfl
theorem vt_con {d : D} (Γ : G) : evT C (.con d) Γ = trT (ev C (.con d)) Γ := by
  unfold trT
  rw [evT, ev]
  rfl
theorem vt_bin {op : Operator} {a b : E} (Γ : G) : evT C (.bin op a b) Γ = trT (ev C (.bin op a b)) Γ := by
  unfold trT
  rw [evT, ev]
  cases ev C a Γ with
  | none => rfl
  | some p =>
    obtain ⟨ra, Γ1⟩ := p
    simp only [Option.bind_some]
    cases ev C b Γ1 with
    | none => rfl
    | some p =>
      obtain ⟨rb, Γ2⟩ := p
      simp only [Option.bind_some]
      cases look Γ2 ra with
      | none => rfl
      | some x =>
        simp only [Option.bind_some]
        cases look Γ2 rb with
        | none => rfl
        | some y =>
          simp only [Option.bind_some]
          cases bop op x y <;> rfl
theorem vt_idx {a b : E} (Γ : G) : evT C (.idx a b) Γ = trT (ev C (.idx a b)) Γ := by
  unfold trT
  rw [evT, ev]
  cases ev C a Γ with
  | none => rfl
  | some p =>
    obtain ⟨ra, Γ1⟩ := p
    simp only [Option.bind_some]
    cases ev C b Γ1 with
    | none => rfl
    | some p =>
      obtain ⟨rb, Γ2⟩ := p
      simp only [Option.bind_some]
      cases look Γ2 ra with
      | none => rfl
      | some x =>
        simp only [Option.bind_some]
        cases look Γ2 rb with
        | none => rfl
        | some y =>
          simp only [Option.bind_some]
          cases idxD x y <;> rfl
theorem vt_mcl {c f : Nat} {acc : List Bool} {a : E} {es : Es} {src : List Src} (Γ : G) : evT C (.mcl c f acc a es src) Γ = trT (ev C (.mcl c f acc a es src)) Γ := by
  unfold trT
  rw [evT, ev]
theorem vt_cal {f : Nat} {acc acc2 : List Bool} {es ks : Es} {src : List Src} (Γ : G) : evT C (.cal f acc es acc2 ks src) Γ = trT (ev C (.cal f acc es acc2 ks src)) Γ := by
  unfold trT
  rw [evT, ev]
  cases evA C es acc Γ with
  | none => rfl
  | some p =>
    obtain ⟨ra, Γ1⟩ := p
    simp only [Option.bind_some]
    cases evA C ks acc2 Γ1 with
    | none => rfl
    | some p => rfl
theorem vt_bi {b : Bi} {es : Es} (Γ : G) : evT C (.bi b es) Γ = trT (ev C (.bi b es)) Γ := by
  unfold trT
  rw [evT, ev]
  cases evA C es [] Γ with
  | none => rfl
  | some p =>
    obtain ⟨ra, Γ1⟩ := p
    simp only [Option.bind_some]
    cases ra.mapM (look Γ1) with
    | none => rfl
    | some ds =>
      simp only [Option.bind_some]
      cases bi b ds <;> rfl
theorem vt_isi {a : E} {ts : List Ty} (Γ : G) : evT C (.isi a ts) Γ = trT (ev C (.isi a ts)) Γ := by
  unfold trT
  rw [evT, ev]
  cases ev C a Γ with
  | none => rfl
  | some p =>
    obtain ⟨ra, Γ1⟩ := p
    simp only [Option.bind_some]
    cases look Γ1 ra with
    | none => rfl
    | some x =>
      simp only [Option.bind_some]
      cases ts.mapM (isTy x) <;> rfl
theorem both_val {X : Cx} {x : Expr} {m : E} (ha : SE T X x (ev C m)) (he : ∀ whole, isTrue x X.env whole = (do let v ← whole; standAt x.pos; holding [v] (truthy v))) (hn : ∀ op l p, x ≠ .BoolOp op l p) (hv : ∀ Γ, evT C m Γ = trT (ev C m) Γ) : SE T X x (ev C m) ∧ ST T X x (evT C m) := ⟨ha, st_val ha he hn hv⟩
theorem both_no {X : Cx} {x : Expr} {m : E} (ha : SE T X x (ev C m)) (h : ∀ Γ, evT C m Γ = none) : SE T X x (ev C m) ∧ ST T X x (evT C m) := ⟨ha, st_no h⟩
mutual
theorem sndE : ∀ (m : E) (st : Stat) (X : Cx) (x : Expr), XOk T C st X → chkE m st x = true → SE T X x (ev C m) ∧ ST T X x (evT C m)
  | .var i, st, X, x, k, h => by
    rw [chkE.eq_def] at h; simp only at h; split at h
    · simp only [Bool.and_eq_true] at h
      exact both_val (se_var (k.slot h.1.1) (k.vis h.1.2) (okN_d h.2).1 (okN_d h.2).2) (fun _ => rfl) nofun vt_var
    · cases h
  | .con d, st, X, x, k, h => by
    rw [chkE.eq_def] at h; simp only at h; split at h
    · exact both_val (conB_rep h) (fun _ => rfl) nofun vt_con
    · cases h
  | .glb g, st, X, x, k, h => by
    rw [chkE.eq_def] at h; simp only at h; split at h
    · rw [Bool.and_eq_true, Bool.and_eq_true] at h
      exact both_no (se_glb k h.1.1 h.1.2 h.2) (fun Γ => by rw [evT] <;> simp)
    · cases h
  | .bin op a b, st, X, x, k, h => by
    rw [chkE.eq_def] at h; simp only at h; split at h
    · simp only [Bool.and_eq_true, decide_eq_true_eq] at h
      obtain ⟨⟨rfl, h1⟩, h2⟩ := h
      exact both_val (se_bin op (sndE a st X _ k h1).1 (sndE b st X _ k h2).1) (fun _ => rfl) nofun vt_bin
    · cases h
  | .neg a, st, X, x, k, h => by
    rw [chkE.eq_def] at h; simp only at h; split at h
    · exact both_no (se_neg (sndE a st X _ k h).1) (fun Γ => by rw [evT] <;> simp)
    · cases h
  | .not_ a, st, X, x, k, h => by
    rw [chkE.eq_def] at h; simp only at h; split at h
    · exact ⟨se_not (sndE a st X _ k h).1, .of (st_not (sndE a st X _ k h).2) nofun⟩
    · cases h
  | .cmp op a b, st, X, x, k, h => by
    rw [chkE.eq_def] at h; simp only at h; split at h
    · simp only [Bool.and_eq_true, decide_eq_true_eq] at h
      obtain ⟨⟨⟨rfl, h1⟩, h2⟩, h3⟩ := h
      exact ⟨se_cmp op k.un (sndE a st X _ k h1).1 (sndE b st X _ k h2).1 h3, .of (st_cmp op k.un (sndE a st X _ k h1).1 (sndE b st X _ k h2).1 h3) nofun⟩
    · cases h
  | .chn o1 o2 a b c, st, X, x, k, h => by
    rw [chkE.eq_def] at h; simp only at h; split at h
    · simp only [Bool.and_eq_true, decide_eq_true_eq] at h
      obtain ⟨⟨⟨⟨⟨rfl, rfl⟩, h1⟩, h2⟩, h3⟩, h4⟩ := h
      exact ⟨se_chn o1 o2 k.un (sndE a st X _ k h1).1 (sndE b st X _ k h2).1 (sndE c st X _ k h3).1 h4, .of (st_chn o1 o2 k.un (sndE a st X _ k h1).1 (sndE b st X _ k h2).1 (sndE c st X _ k h3).1 h4) nofun⟩
    · cases h
  | .and_ a b, st, X, x, k, h => by
    rw [chkE.eq_def] at h; simp only at h; split at h
    · simp only [Bool.and_eq_true] at h
      have hw := st_and (sndE a st X _ k h.1).2 (sndE b st X _ k h.2).2
      exact ⟨se_and (sndE a st X _ k h.1).1 (sndE b st X _ k h.2).1, ⟨hw.pt, fun op l p z => by cases z; exact hw⟩⟩
    · cases h
  | .or_ a b, st, X, x, k, h => by
    rw [chkE.eq_def] at h; simp only at h; split at h
    · simp only [Bool.and_eq_true] at h
      have hw := st_or (sndE a st X _ k h.1).2 (sndE b st X _ k h.2).2
      exact ⟨se_or (sndE a st X _ k h.1).1 (sndE b st X _ k h.2).1, ⟨hw.pt, fun op l p z => by cases z; exact hw⟩⟩
    · cases h
  | .ite c a b, st, X, x, k, h => by
    rw [chkE.eq_def] at h; simp only at h; split at h
    · simp only [Bool.and_eq_true] at h
      exact both_no (se_ite (sndE c st X _ k h.1.1).2 (sndE a st X _ k h.1.2).1 (sndE b st X _ k h.2).1) (fun Γ => by rw [evT] <;> simp)
    · cases h
  | .tup es, st, X, x, k, h => by
    rw [chkE.eq_def] at h; simp only at h; split at h
    · simp only [Bool.and_eq_true, decide_eq_true_eq] at h
      exact both_no (se_tup (sndF es st X _ k h.1) h.2) (fun Γ => by rw [evT] <;> simp)
    · cases h
  | .lst es, st, X, x, k, h => by
    rw [chkE.eq_def] at h; simp only at h; split at h
    · simp only [Bool.and_eq_true, decide_eq_true_eq] at h
      exact both_no (se_lst (sndF es st X _ k h.1) h.2) (fun Γ => by rw [evT] <;> simp)
    · cases h
  | .idx a i, st, X, x, k, h => by
    rw [chkE.eq_def] at h; simp only at h; split at h
    · simp only [Bool.and_eq_true] at h
      exact both_val (se_idx (sndE a st X _ k h.1.1).1 (sndE i st X _ k h.1.2).1 h.2) (fun _ => rfl) nofun vt_idx
    · cases h
  | .slc a lo hi, st, X, x, k, h => by
    rw [chkE.eq_def] at h; simp only at h; split at h
    · simp only [Bool.and_eq_true] at h
      exact both_no (se_slc (sndE a st X _ k h.1.1).1 (sndO lo st X _ k h.1.2) (sndO hi st X _ k h.2)) (fun Γ => by rw [evT] <;> simp)
    · cases h
  | .slx a lo hi c, st, X, x, k, h => by
    rw [chkE.eq_def] at h; simp only at h; split at h
    · simp only [Bool.and_eq_true] at h
      exact both_no (se_slx (sndE a st X _ k h.1.1.1).1 (sndO lo st X _ k h.1.1.2) (sndO hi st X _ k h.1.2) (sndE c st X _ k h.2).1) (fun Γ => by rw [evT] <;> simp)
    · cases h
  | .emp, st, X, x, k, h => by
    rw [chkE.eq_def] at h; simp only at h; split at h
    · exact both_no (se_emp) (fun Γ => by rw [evT] <;> simp)
    · cases h
  | .dsp ks es, st, X, x, k, h => by
    rw [chkE.eq_def] at h; simp only at h; split at h
    · simp only [Bool.and_eq_true, decide_eq_true_eq] at h
      obtain ⟨⟨h1, h2⟩, h3⟩ := h
      obtain ⟨trs, g1, g2, g3, g4⟩ := sndD es ks st X _ _ k h1
      exact both_no (se_dsp (g1 _) g2 g3 g4 (fun z => by rw [z] at h2; cases h2) h3) (fun Γ => by rw [evT] <;> simp)
    · cases h
  | .cal f acc es acc2 ks src, st, X, x, k, h => by
    rw [chkE.eq_def] at h; simp only at h; split at h
    · simp only [Bool.and_eq_true] at h
      obtain ⟨⟨⟨⟨h1, h2⟩, h3⟩, h4⟩, h5⟩ := h
      obtain ⟨p, hp, h6⟩ := List.any_eq_true.mp h5
      simp only [Bool.and_eq_true] at h6
      obtain ⟨⟨⟨⟨⟨g1, g2⟩, g3⟩, g4⟩, g5⟩, g6⟩ := h6
      obtain ⟨q1, q2⟩ := plain_of_chkA h1
      have e1 : p.f = f := eq_of_beq g1
      have e2 : p.n = es.len := eq_of_beq g3
      have e3 : p.ks.length = ks.len := eq_of_beq g4
      have e4 : p.src = src := srcEq_eq g6
      subst e1 e4
      exact both_val (se_cal (k.fns p hp) (sq_eq g2) (k.gl h3) (okN_d h4).1 (sndA es acc st X _ k h1) (sndK ks acc2 st X _ k h2) q1 (ksB_eq g5) q2 e2.symm e3.symm) (fun _ => rfl) nofun vt_cal
    · cases h
  | .bi b es, st, X, x, k, h => by
    rw [chkE.eq_def] at h; simp only at h; split at h
    · simp only [Bool.and_eq_true, decide_eq_true_eq] at h
      obtain ⟨⟨⟨⟨h1, h2⟩, h3⟩, h4⟩, h5⟩ := h
      exact both_val (se_bi k.calm k.gd k.un h2 (sq_eq h3) (k.gl h4) (k.blt _ h5) (sndA es [] st X _ k h1) (plain_of_chkA h1).1) (fun _ => rfl) nofun vt_bi
    · simp only [Bool.and_eq_true, decide_eq_true_eq] at h
      obtain ⟨⟨⟨⟨⟨h1, h2⟩, h3⟩, h4⟩, h5⟩, h6⟩ := h
      subst h2
      match es, h1 with
      | .cons a (.cons b .nil), h1 =>
        rw [chkA.eq_def] at h1
        simp only [Bool.and_eq_true] at h1
        obtain ⟨⟨g1, g2⟩, g3⟩ := h1
        rw [chkA.eq_def] at g3
        simp only [Bool.and_eq_true] at g3
        exact both_val (se_sum2 k.calm (sq_eq h3) (sq_eq h4) (k.gl h5) (k.blt _ h6) (sndE a st X _ k g2).1 (sndE b st X _ k g3.1.2).1 g1) (fun _ => rfl) nofun vt_bi
      | .nil, h1 => rw [chkA.eq_def] at h1; simp at h1
      | .cons a .nil, h1 => rw [chkA.eq_def] at h1; simp only [Bool.and_eq_true] at h1; have := h1.2; rw [chkA.eq_def] at this; cases this
      | .cons a (.cons b (.cons c es)), h1 =>
        rw [chkA.eq_def] at h1; simp only [Bool.and_eq_true] at h1
        have := h1.2
        rw [chkA.eq_def] at this; simp only [Bool.and_eq_true] at this
        have := this.2
        rw [chkA.eq_def] at this; cases this
    · cases h
  | .mth m a es, st, X, x, k, h => by
    rw [chkE.eq_def] at h; simp only at h; split at h
    · simp only [Bool.and_eq_true] at h
      obtain ⟨⟨⟨⟨h1, h2⟩, h3⟩, h4⟩, h5⟩ := h
      match es, h2 with
      | .cons b .nil, h2 =>
        rw [chkA.eq_def] at h2
        simp only [Bool.and_eq_true] at h2
        have sa := (sndE a st X _ k h1).1
        have sb := (sndE b st X _ k h2.1.2).1
        refine both_no ?_ (fun Γ => by rw [evT] <;> simp)
        match m, h3 with
        | .join, h3 => exact se_join (sq_eq h3) sa sb h4 h5 h2.1.1
        | .index, h3 => exact se_index (sq_eq h3) sa sb h4 h5 h2.1.1
        | .tindex, h3 => exact se_tindex (sq_eq h3) sa sb h4 h5 h2.1.1
      | .nil, h2 => rw [chkA.eq_def] at h2; simp at h2
      | .cons b (.cons c es), h2 =>
        rw [chkA.eq_def] at h2
        simp only [Bool.and_eq_true] at h2
        have := h2.2
        rw [chkA.eq_def] at this
        cases this
    · cases h
  | .mmt m a es, st, X, x, k, h => by
    rw [chkE.eq_def] at h; simp only at h; split at h
    · simp only [Bool.and_eq_true, decide_eq_true_eq] at h
      obtain ⟨⟨⟨⟨⟨⟨h1, h2⟩, h3⟩, h4⟩, h5⟩, h6⟩, h7⟩ := h
      exact both_no (se_mmt (by simpa using h4) (sq_eq h3) (sndE a st X _ k h1).1 (sndF es st X _ k h2) h5 h6 (plain_of_chkA h2).1 h7) (fun Γ => by rw [evT] <;> simp)
    · simp only [Bool.and_eq_true] at h
      obtain ⟨⟨⟨⟨⟨h1, h2⟩, h3⟩, h4⟩, h5⟩, h6⟩ := h
      match es, h2 with
      | .nil, _ => exact both_no (se_mmt0 h4 (sq_eq h3) (sndE a st X _ k h1).1 h5 h6) (fun Γ => by rw [evT] <;> simp)
      | .cons b es, h2 => rw [chkA.eq_def] at h2; cases h2
    · cases h
  | .isi a ts, st, X, x, k, h => by
    rw [chkE.eq_def] at h; simp only at h; split at h
    · simp only [Bool.and_eq_true] at h
      obtain ⟨⟨⟨⟨⟨⟨⟨h1, h2⟩, h3⟩, h4⟩, h5⟩, h6⟩, h7⟩, h8⟩ := h
      split at h8
      · exact both_val (se_isi (sq_eq h3) (sq_eq h8) (k.gl h4) (k.blt _ h5) (k.gl h6) (k.blt _ h7) (sndE a st X _ k h1).1 h2) (fun _ => rfl) nofun vt_isi
      · cases h8
    · cases h
  | .fld a c j, st, X, x, k, h => by
    rw [chkE.eq_def] at h; simp only at h; split at h
    · rename_i y n q
      simp only [Bool.and_eq_true] at h
      obtain ⟨⟨h1, h2⟩, h3⟩ := h
      obtain ⟨p, hp, h4⟩ := List.any_eq_true.mp h3
      rw [Bool.and_eq_true] at h4
      obtain ⟨g1, g2⟩ := h4
      have e1 : p.1 = c := eq_of_beq g1
      obtain ⟨f1, f2⟩ := k.cls p hp
      rw [e1] at f1 f2
      have hn : (T.flds c)[j]? = some n := by
        rw [f1]
        split at g2
        · rename_i m hm
          rw [hm, ← sq_eq g2]
        · cases g2
      exact both_no (se_fld f2 hn (sndE a st X _ k h1).1 h2) (fun Γ => by rw [evT] <;> simp)
    · cases h
  | .mcl c f acc a es src, st, X, x, k, h => by
    rw [chkE.eq_def] at h; simp only at h; split at h
    · simp only [Bool.and_eq_true, decide_eq_true_eq] at h
      obtain ⟨⟨⟨⟨⟨h1, h2⟩, h3⟩, h4⟩, h5⟩, h6⟩ := h
      obtain ⟨p, hp, h7⟩ := List.any_eq_true.mp h6
      simp only [Bool.and_eq_true] at h7
      obtain ⟨⟨⟨⟨⟨g1, g2⟩, g3⟩, g4⟩, g5⟩, g6⟩ := h7
      obtain ⟨q1, q2⟩ := plain_of_chkA h3
      have e1 : p.c = c := eq_of_beq g1
      have e2 : p.fi.f = f := eq_of_beq g2
      have e3 : p.fi.n = es.len + 1 := eq_of_beq g5
      have e4 : p.fi.src = src := srcEq_eq g6
      subst e1 e2 e4
      exact both_val (se_mcl (k.mts p hp) (sq_eq g3) (List.isEmpty_iff.mp g4) (sndE a st X _ k h1).1 (sndA es acc.tail st X _ k h3) h2 q1 q2 e3.symm h4 h5) (fun _ => rfl) nofun vt_mcl
    · cases h
  | .mk c f acc es acc2 ks src, st, X, x, k, h => by
    rw [chkE.eq_def] at h; simp only at h; split at h
    · simp only [Bool.and_eq_true] at h
      obtain ⟨⟨⟨⟨h1, h2⟩, h3⟩, h4⟩, h5⟩ := h
      obtain ⟨p, hp, h6⟩ := List.any_eq_true.mp h5
      simp only [Bool.and_eq_true] at h6
      obtain ⟨⟨⟨⟨⟨⟨g0, g1⟩, g2⟩, g3⟩, g4⟩, g5⟩, g6⟩ := h6
      obtain ⟨q1, q2⟩ := plain_of_chkA h1
      have e0 : p.c = c := eq_of_beq g0
      have e1 : p.fi.f = f := eq_of_beq g1
      have e2 : p.fi.n = es.len + 1 := eq_of_beq g3
      have e3 : p.fi.ks.length = ks.len := eq_of_beq g4
      have e4 : p.fi.src = src := srcEq_eq g6
      subst e0 e1 e4
      obtain ⟨m1, m2⟩ := k.mks p hp
      exact both_no (se_mk m1 m2 (sq_eq g2) (k.gl h3) (okN_d h4).1 (sndA es acc st X _ k h1) (sndK ks acc2 st X _ k h2) q1 (ksB_eq g5) q2 e2.symm e3.symm) (fun Γ => by rw [evT] <;> simp)
    · cases h
  | .kget g a, st, X, x, k, h => by
    rw [chkE.eq_def] at h; simp only at h; split at h
    · simp only [Bool.and_eq_true] at h
      obtain ⟨⟨⟨⟨⟨⟨h1, h2⟩, h3⟩, h4⟩, h5⟩, h6⟩, h7⟩ := h
      obtain ⟨p, hp, h8⟩ := List.any_eq_true.mp h7
      rw [Bool.and_eq_true] at h8
      have e1 : p.1 = g := eq_of_beq h8.1
      subst e1
      obtain ⟨d, hd, D⟩ := k.kds p hp
      have en := sq_eq h1
      subst en
      exact both_no (se_kget (k.gl h5) (by rw [sq_eq h8.2]; exact hd) (okN_d h6).1 D (sndE a st X _ k h2).1 h4 h3) (fun Γ => by rw [evT] <;> simp)
    · cases h
  | .kgd g a d0, st, X, x, k, h => by
    rw [chkE.eq_def] at h; simp only at h; split at h
    · simp only [Bool.and_eq_true] at h
      obtain ⟨⟨⟨⟨⟨⟨⟨h1, h2⟩, h3⟩, h4⟩, h5⟩, h6⟩, hc⟩, h7⟩ := h
      obtain ⟨p, hp, h8⟩ := List.any_eq_true.mp h7
      rw [Bool.and_eq_true] at h8
      have e1 : p.1 = g := eq_of_beq h8.1
      subst e1
      obtain ⟨d, hd, D⟩ := k.kds p hp
      have en := sq_eq h1
      subst en
      exact both_no (se_kgd (k.gl h5) (by rw [sq_eq h8.2]; exact hd) (okN_d h6).1 D (sndE a st X _ k h2).1 (conB_rep hc) h4 h3 rfl) (fun Γ => by rw [evT] <;> simp)
    · cases h
  | .kin g ng a, st, X, x, k, h => by
    rw [chkE.eq_def] at h; simp only at h; split at h
    · simp only [Bool.and_eq_true, decide_eq_true_eq] at h
      obtain ⟨⟨⟨⟨rfl, h2⟩, h5⟩, h6⟩, h7⟩ := h
      obtain ⟨p, hp, h8⟩ := List.any_eq_true.mp h7
      rw [Bool.and_eq_true] at h8
      have e1 : p.1 = g := eq_of_beq h8.1
      subst e1
      obtain ⟨d, hd, D⟩ := k.kds p hp
      exact ⟨se_kin (k.gl h5) (by rw [sq_eq h8.2]; exact hd) (okN_d h6).1 D (sndE a st X _ k h2).1, .of (st_kin (k.gl h5) (by rw [sq_eq h8.2]; exact hd) (okN_d h6).1 D (sndE a st X _ k h2).1) nofun⟩
    · cases h
  | .dget a b d0, st, X, x, k, h => by
    rw [chkE.eq_def] at h; simp only at h; split at h
    · simp only [Bool.and_eq_true] at h
      obtain ⟨⟨⟨⟨⟨⟨h1, h2⟩, h3⟩, h4⟩, h5⟩, h6⟩, hc⟩ := h
      have en := sq_eq h1
      subst en
      exact both_no (se_dget k.un (sndE a st X _ k h2).1 (sndE b st X _ k h4).1 (conB_rep hc) h3 h6 h5 rfl) (fun Γ => by rw [evT] <;> simp)
    · cases h
  | .trev a, st, X, x, k, h => by
    rw [chkE.eq_def] at h; simp only at h; split at h
    · simp only [Bool.and_eq_true] at h
      obtain ⟨⟨⟨⟨⟨⟨⟨h1, h2⟩, h3⟩, h4⟩, h5⟩, h6⟩, h7⟩, h8⟩ := h
      exact both_no (se_trev k.calm (sq_eq h1) (sq_eq h2) (k.gl h5) (k.blt _ h6) (k.gl h7) (k.blt _ h8) (sndE a st X _ k h3).1 h4) (fun Γ => by rw [evT] <;> simp)
    · cases h
  | .lno c f a, st, X, x, k, h => by
    rw [chkE.eq_def] at h; simp only at h; split at h
    · simp only [Bool.and_eq_true] at h
      obtain ⟨⟨⟨⟨⟨h1, h2⟩, h3⟩, h4⟩, h5⟩, h6⟩ := h
      obtain ⟨p, hp, h7⟩ := List.any_eq_true.mp h6
      simp only [Bool.and_eq_true] at h7
      obtain ⟨⟨⟨⟨⟨g0, g1⟩, g2⟩, g3⟩, g4⟩, g5⟩ := h7
      have e0 : p.c = c := eq_of_beq g0
      have e1 : p.fi.f = f := eq_of_beq g1
      subst e0 e1
      exact both_no (se_lno (k.lns p hp) (sq_eq g2) (eq_of_beq g3) (List.isEmpty_iff.mp g4) (srcEq_eq g5) (sq_eq h3) (k.gl h4) (k.blt _ h5) (sndE a st X _ k h1).1 h2) (fun Γ => by rw [evT] <;> simp)
    · cases h
  | .cpr own t it c e, st, X, x, k, h => by
    rw [chkE.eq_def] at h; simp only at h; split at h
    · simp only [Bool.and_eq_true, decide_eq_true_eq] at h
      obtain ⟨⟨⟨⟨⟨⟨⟨⟨h0, h1⟩, h2⟩, h3⟩, h4⟩, h5⟩, h6⟩, h7⟩, h8⟩ := h
      cases eq_of_beq h0
      exact both_no ((se_cpr k h1 h2 h3 (sndI it st X _ _ k h4) (fun X' k' => sndG t _ X' _ k' h5) (fun X' k' => sndC c _ X' _ k' h7) (fun X' k' => (sndE e _ X' _ k' h8).1) h6).1 _) (fun Γ => by rw [evT] <;> simp)
    · cases h
theorem sndF : ∀ (es : Es) (st : Stat) (X : Cx) (xs : List Expr), XOk T C st X → chkA es st xs = true → SF T X xs (evF C es)
  | .nil, st, X, xs, k, h => by
    cases xs with
    | nil => exact sf_nil
    | cons _ _ => rw [chkA.eq_def] at h; cases h
  | .cons e es, st, X, xs, k, h => by
    cases xs with
    | nil => rw [chkA.eq_def] at h; cases h
    | cons x xs =>
      rw [chkA.eq_def] at h
      simp only [Bool.and_eq_true] at h
      exact sf_cons (sndE e st X x k h.1.2).1 (sndF es st X xs k h.2) h.1.1
theorem sndD : ∀ (es : Es) (ks : List Key) (st : Stat) (X : Cx) (keys : List (Option Expr)) (vals : List Expr), XOk T C st X → chkD es ks st keys vals = true → ∃ trs, (∀ pos, PPs X pos keys vals trs) ∧ DspR T X.K (evF C es) ks trs ∧ (keys.all fun x => x.isSome) = true ∧ keys.length = vals.length
  | .nil, ks, st, X, xs, vs, k, h => by
    rw [chkD.eq_def] at h
    simp only [Bool.and_eq_true, List.isEmpty_iff] at h
    obtain ⟨⟨rfl, rfl⟩, rfl⟩ := h
    exact ⟨[], fun _ => pps_nil, dspR_nil, rfl, rfl⟩
  | .cons e es, ks, st, X, xs, vs, k, h => by
    rw [chkD.eq_def] at h
    simp only at h
    split at h
    · simp only [Bool.and_eq_true] at h
      obtain ⟨⟨h1, h2⟩, h3⟩ := h
      obtain ⟨trs, g1, g2, g3, g4⟩ := sndD es _ st X _ _ k h3
      refine ⟨_, fun pos => pps_cons (keyB_pe h1) (sndE e st X _ k h2).1 (g1 pos), dspR_cons g2, ?_, by rw [List.length_cons, List.length_cons, g4]⟩
      rw [List.all_cons, g3]
      rfl
    · cases h
theorem sndA : ∀ (es : Es) (acc : List Bool) (st : Stat) (X : Cx) (xs : List Expr), XOk T C st X → chkA es st xs = true → SA T X xs (evA C es acc)
  | .nil, acc, st, X, xs, k, h => by
    cases xs with
    | nil => exact sa_nil
    | cons _ _ => rw [chkA.eq_def] at h; cases h
  | .cons e es, acc, st, X, xs, k, h => by
    cases xs with
    | nil => rw [chkA.eq_def] at h; cases h
    | cons x xs =>
      rw [chkA.eq_def] at h
      simp only [Bool.and_eq_true] at h
      exact sa_cons (sndE e st X x k h.1.2).1 (sndA es acc.tail st X xs k h.2) h.1.1
theorem sndK : ∀ (es : Es) (acc : List Bool) (st : Stat) (X : Cx) (xs : List Keyword), XOk T C st X → chkK es st xs = true → SK T X xs (evA C es acc)
  | .nil, acc, st, X, xs, k, h => by
    cases xs with
    | nil => exact sk_nil
    | cons _ _ => rw [chkK.eq_def] at h; cases h
  | .cons e es, acc, st, X, xs, k, h => by
    cases xs with
    | nil => rw [chkK.eq_def] at h; cases h
    | cons x xs =>
      obtain ⟨n, x, p⟩ := x
      rw [chkK.eq_def] at h
      simp only [Bool.and_eq_true] at h
      exact sk_cons (sndE e st X x k h.1).1 (sndK es acc.tail st X xs k h.2)
theorem sndO : ∀ (o : Eo) (st : Stat) (X : Cx) (x : Option Expr), XOk T C st X → chkO o st x = true → SO T X x (evO C o)
  | .non, st, X, x, k, h => by
    cases x with
    | none => exact so_none
    | some _ => rw [chkO.eq_def] at h; cases h
  | .som e, st, X, x, k, h => by
    cases x with
    | none => rw [chkO.eq_def] at h; cases h
    | some x =>
      rw [chkO.eq_def] at h
      exact so_some (sndE e st X x k h).1
theorem sndC : ∀ (o : Eo) (st : Stat) (X : Cx) (x : List Expr), XOk T C st X → chkC o st x = true → SC T X x (evC C o)
  | .non, st, X, x, k, h => by
    cases x with
    | nil => exact sc_none
    | cons _ _ => rw [chkC.eq_def] at h; cases h
  | .som e, st, X, x, k, h => by
    rw [chkC.eq_def] at h; simp only at h; split at h
    · exact sc_some (sndE e st X _ k h).2
    · cases h
theorem sndI : ∀ (it : It) (st : Stat) (X : Cx) (tg x : Expr), XOk T C st X → chkI it st tg x = true → SI T X tg x (evI C it)
  | .seq e, st, X, tg, x, k, h => by
    rw [chkI.eq_def] at h; simp only at h
    exact si_seq (sndE e st X x k h).1
  | .rng1 a, st, X, tg, x, k, h => by
    rw [chkI.eq_def] at h; simp only at h; split at h
    · simp only [Bool.and_eq_true] at h
      obtain ⟨⟨⟨⟨h1, h2⟩, h3⟩, h4⟩, h5⟩ := h
      exact si_rng1 (sq_eq h3) (k.gl h4) (k.blt _ h5) (sndE a st X _ k h1).1 h2
    · cases h
  | .rng2 a b, st, X, tg, x, k, h => by
    rw [chkI.eq_def] at h; simp only at h; split at h
    · simp only [Bool.and_eq_true] at h
      obtain ⟨⟨⟨⟨⟨⟨h1, h2⟩, h3⟩, h4⟩, h5⟩, h6⟩, h7⟩ := h
      exact si_rng2 (sq_eq h5) (k.gl h6) (k.blt _ h7) (sndE a st X _ k h1).1 (sndE b st X _ k h2).1 h3 h4
    · cases h
  | .rng3 a b c, st, X, tg, x, k, h => by
    rw [chkI.eq_def] at h; simp only at h; split at h
    · simp only [Bool.and_eq_true] at h
      obtain ⟨⟨⟨⟨⟨⟨⟨⟨h1, h2⟩, h3⟩, h4⟩, h5⟩, h6⟩, h7⟩, h8⟩, h9⟩ := h
      exact si_rng3 (sq_eq h7) (k.gl h8) (k.blt _ h9) (sndE a st X _ k h1).1 (sndE b st X _ k h2).1 (sndE c st X _ k h3).1 h4 h5 h6
    · cases h
  | .zip a b, st, X, tg, x, k, h => by
    rw [chkI.eq_def] at h; simp only at h; split at h
    · split at h
      · simp only [Bool.and_eq_true] at h
        obtain ⟨⟨⟨⟨⟨⟨h1, h2⟩, h3⟩, h4⟩, h5⟩, h6⟩, h7⟩ := h
        exact si_zip (sq_eq h5) (k.gl h6) (k.blt _ h7) (sndE a st X _ k h1).1 (sndE b st X _ k h2).1 h3 h4
      · cases h
    · cases h
  | .enu a, st, X, tg, x, k, h => by
    rw [chkI.eq_def] at h; simp only at h; split at h
    · split at h
      · simp only [Bool.and_eq_true] at h
        obtain ⟨⟨⟨⟨h1, h2⟩, h3⟩, h4⟩, h5⟩ := h
        exact si_enu (sq_eq h3) (k.gl h4) (k.blt _ h5) (sndE a st X _ k h1).1 h2
      · cases h
    · cases h
  | .rev a, st, X, tg, x, k, h => by
    rw [chkI.eq_def] at h; simp only at h; split at h
    · simp only [Bool.and_eq_true] at h
      obtain ⟨⟨⟨⟨h1, h2⟩, h3⟩, h4⟩, h5⟩ := h
      exact si_rev (sq_eq h3) (k.gl h4) (k.blt _ h5) (sndE a st X _ k h1).1 h2
    · cases h
end
end
end Mi

namespace Mi
open PySem PySem.Spec L2
open PyProof.Rows hiding St

/-! ## statements -/
def outPin (st : Stat) (is : List Nat) : Bool := is.all fun i => !st.pin.contains i
theorem outPin_ok {st : Stat} {is : List Nat} (h : outPin st is = true) : ∀ i ∈ is, i ∉ st.pin := fun i hi z => by
  have := List.all_eq_true.mp h i hi
  rw [List.contains_iff_mem.mpr z] at this
  cases this
/-- is a comprehension's list handed over on its way -/
def swB (st : Stat) (n : Str) (p1 : Pos) (scope : Scope) (pos : Pos) : Bool := locB st n && (p1.line == pos.line) && !(scope.names.any fun (m, k) => m == n && (k == .local || k == .cell))
def noTup : Expr → Bool
  | .Tuple .. => false
  | _ => true
def tupB (x : Expr) : Bool := match x with
  | .Tuple vs _ _ => vs.all (foldedForSure 8)
  | _ => true
/-- a target that is stored in a cell -/
def cellB (st : Stat) (tg : Expr) : Bool := match tg with
  | .Tuple ts _ _ => ts.any fun t => match t with
    | .Name n _ => (match lkS st.sc.names n with
      | some .cell => true
      | _ => false)
    | _ => false
  | _ => false
mutual
def chkS1 : S → Stat → Stmt → Bool
  | .asg t e, st, s => match s with
    | .Assign [tg] x pos => match t with
      | .nm i => match tg with
        | .Name n _ => slotB st i n && stoB st n && outPin st [i] && chkE e st x && (noComp x || match x with
          | .ListComp _ [_] _ _ => true
          | _ => false)
        | _ => false
      | t => isTup tg && chkG t st tg && outPin st t.slots && chkE e st x && (tupB x || cellB st tg)
    | _ => false
  | .par i j a b, st, s => match s with
    | .Assign [.Tuple [.Name n pn, .Name m pm] _ _] (.Tuple [x, y] _ _) _ => slotB st i n && slotB st j m && locB st n && locB st m && i != j && outPin st [i, j] && chkE a st x && chkE b st y && plainE x && plainE y && (pm.line == pn.line) && !(sq m n)
        && !([x, y].all (foldedForSure 8)) && !([x, y].all (constantsAlone 8))
    | _ => false
  | .aug i op e, st, s => match s with
    | .AugAssign (.Name n _) op' x _ => decide (op = op') && slotB st i n && stoB st n && outPin st [i] && chkE e st x
    | _ => false
  | .setx b i e, st, s => match s with
    | .Assign [.Subscript y z _] x _ => chkE b st y && chkE i st z && chkE e st x && plainE z
    | _ => false
  | .setf b c j e, st, s => match s with
    | .Assign [.Attribute y n _] x _ => chkE b st y && chkE e st x && noComp x && st.cls.any fun p => p.1 == c && (match p.2[j]? with
      | some m => sq n m
      | none => false)
    | _ => false
  | .augx b i op e, st, s => match s with
    | .AugAssign (.Subscript y z _) op' x _ => decide (op = op') && chkE b st y && chkE i st z && chkE e st x && plainE z
    | _ => false
  | .exp e, st, s => match s with
    | .Expr x _ => chkE e st x && noComp x
    | _ => false
  | .ret e, st, s => match s with
    | .Return (some x) _ => chkE e st x
    | _ => false
  | .retn, _, s => match s with
    | .Return none _ => true
    | _ => false
  | .ife c a b, st, s => match s with
    | .If z l1 l2 _ => chkE c st z && chkSs a st l1 && chkSs b st l2
    | _ => false
  | .for_ t it b, st, s => match s with
    | .For tg iter l [] _ => chkI it st tg iter && chkG t st tg && outPin st t.slots && plainE iter && chkSs b st l
    | _ => false
  | .whl c b, st, s => match s with
    | .While z l [] _ => chkE c st z && chkSs b st l
    | _ => false
  | .brk, _, s => match s with
    | .Break _ => true
    | _ => false
  | .cnt, _, s => match s with
    | .Continue _ => true
    | _ => false
  | .pas, _, s => match s with
    | .Pass _ => true
    | .Expr (.Constant (.str _) _ _) _ => true
    | _ => false
  | .bad, _, _ => true
def chkSs : Ss → Stat → List Stmt → Bool
  | .nil, _, l => l.isEmpty
  | .cons s ss, st, l => match l with
    | x :: xs => chkS1 s st x && chkSs ss st xs
    | [] => false
end
section
variable {T : Cls2} {C : Ctx} {X : Cx} {st : Stat}
theorem sw_eq (k : XOk T C st X) {elt : Expr} {g : Comprehension} {scope : Scope} {pos p1 : Pos} {n : Str} {l : Nat} : swapsWith (.ListComp elt [g] scope pos) (some (.Name n p1)) l X.env = pure (swB st n p1 scope pos) := by
  have hb : X.env.blockKind = .function := by unfold Env.blockKind; rw [k.kind]; rfl
  have e1 : (X.env.kindOf n == some NameKind.local) = locB st n := by
    show (X.env.scope.names.lookup n == some NameKind.local) = _
    unfold locB
    rw [lkS_eq, k.sc]
    cases h : st.sc.names.lookup n with
    | none => rfl
    | some q => cases q <;> rfl
  unfold swapsWith swB
  simp only [hb, e1, Expr.pos]
  rfl
theorem fm_lt {α β : Type} {f : α → Option β} : ∀ {ts : List α}, (∃ t ∈ ts, f t = none) → (ts.filterMap f).length < ts.length
  | [], h => by obtain ⟨t, ht, _⟩ := h; cases ht
  | t :: ts, h => by
    have hle : (ts.filterMap f).length ≤ ts.length := List.length_filterMap_le f ts
    rw [List.filterMap_cons, List.length_cons]
    cases e : f t with
    | none => show (ts.filterMap f).length < _; omega
    | some b =>
      obtain ⟨u, hu, eu⟩ := h
      rcases List.mem_cons.mp hu with rfl | hu
      · rw [e] at eu; cases eu
      · have := fm_lt ⟨u, hu, eu⟩
        show (b :: ts.filterMap f).length < _
        rw [List.length_cons]
        omega
theorem sw_cell {ts vs : List Expr} {k k2 : Nat} {p p2 : Pos} {env : Env} (h : ∃ t ∈ ts, ∀ n q, t = .Name n q → (env.kindOf n == some .local) = false) : swappedStores [.Tuple ts k p] (.Tuple vs k2 p2) env = pure none := by
  obtain ⟨t, ht, hn⟩ := h
  unfold swappedStores
  dsimp only
  split
  · rfl
  · split
    · rfl
    · rw [if_pos]
      rw [Bool.or_eq_true]
      left
      rw [bne_iff_ne]
      refine Nat.ne_of_lt (fm_lt ⟨t, ht, ?_⟩)
      cases t <;> first | rfl | skip
      rename_i n q
      simp only [hn n q rfl, Bool.false_and]
      rfl
theorem sw_folded {ts vs : List Expr} {k k2 : Nat} {p p2 : Pos} {env : Env} (h : vs.all (foldedForSure 8) = true) : swappedStores [.Tuple ts k p] (.Tuple vs k2 p2) env = pure none := by
  unfold swappedStores
  simp only [h, if_true]
  repeat' split
  all_goals first | rfl | simp
theorem set_comp (k : XOk T C st X) {e : E} {elt : Expr} {g : Comprehension} {scope : Scope} {pos p1 spos : Pos} {n : Str} {i : Nat} (h : chkE e st (.ListComp elt [g] scope pos) = true) (h1 : slotB st i n = true) (h2 : stoB st n = true) (hp : i ∉ st.pin) :
    SS T X st.pin (.Assign [.Name n p1] (.ListComp elt [g] scope pos) spos) (ex C (.asg (.nm i) e)) := by
  have he := (sndE (T := T) (C := C) e st X _ k h).1
  cases hs : swB st n p1 scope pos with
  | false =>
    obtain ⟨g1, g2⟩ := k.sto h2
    exact ss_set k.nd (k.slot h1) g1 g2 he (by rw [sw_eq k, hs]) hp
  | true =>
    have hl : locB st n = true := by
      unfold swB at hs
      simp only [Bool.and_eq_true] at hs
      exact hs.1.1
    cases e with
    | cpr own t it c e =>
      rw [chkE.eq_def] at h; simp only at h; split at h
      · rename_i heq
        cases heq
        simp only [Bool.and_eq_true, decide_eq_true_eq] at h
        obtain ⟨⟨⟨⟨⟨⟨⟨⟨h0, g1⟩, g2⟩, g3⟩, g4⟩, g5⟩, g6⟩, g7⟩, g8⟩ := h
        cases eq_of_beq h0
        exact (se_cpr k g1 g2 g3 (sndI it st X _ _ k g4) (fun X' k' => sndG t _ X' _ k' g5) (fun X' k' => sndC c _ X' _ k' g7) (fun X' k' => (sndE e _ X' _ k' g8).1) g6).2 st.pin i n p1 pos spos k h1 hl hp (by rw [sw_eq k, hs])
      · cases h
    | _ => rw [chkE.eq_def] at h; simp at h
mutual
theorem sndS : ∀ (m : S) (st : Stat) (X : Cx) (s : Stmt), XOk T C st X → chkS1 m st s = true → SS T X st.pin s (ex C m)
  | .asg t e, st, X, s, k, h => by
    rw [chkS1.eq_def] at h; simp only at h; split at h
    · rename_i tg x pos
      split at h
      · rename_i i
        split at h
        · rename_i n p1
          simp only [Bool.and_eq_true, Bool.or_eq_true] at h
          obtain ⟨⟨⟨⟨h1, h2⟩, h3⟩, h4⟩, h5⟩ := h
          obtain ⟨g1, g2⟩ := k.sto h2
          have hp : i ∉ st.pin := outPin_ok h3 i (by simp)
          rcases h5 with h5 | h5
          · exact ss_set k.nd (k.slot h1) g1 g2 (sndE e st X _ k h4).1 (noSwap' h5 _ _ _) hp
          · split at h5
            · exact set_comp k h4 h1 h2 hp
            · cases h5
        · cases h
      · rename_i hn
        simp only [Bool.and_eq_true] at h
        obtain ⟨⟨⟨⟨h1, h2⟩, h3⟩, h4⟩, h5⟩ := h
        cases tg with
        | Tuple ts k0 p0 =>
          refine ss_asg (fun i z => hn i z) (sndE e st X _ k h4).1 (sndG t st X _ k h2) (outPin_ok h3) (by cases x <;> rfl) ?_ rfl
          cases x with
          | Tuple vs k2 p2 =>
            rcases Bool.or_eq_true_iff.mp h5 with h5 | h5
            · exact sw_folded h5
            · obtain ⟨t, ht, h5⟩ := List.any_eq_true.mp h5
              refine sw_cell ⟨t, ht, ?_⟩
              rintro n p rfl
              simp only at h5
              rw [lkS_eq] at h5
              show (X.env.scope.names.lookup n == some .local) = false
              rw [k.sc]
              split at h5
              · rename_i e; rw [e]; rfl
              · cases h5
          | _ => rfl
        | _ => cases h1
    · cases h
  | .par i j a b, st, X, s, k, h => by
    rw [chkS1.eq_def] at h; simp only at h; split at h
    · simp only [Bool.and_eq_true, Bool.not_eq_true', bne_iff_ne] at h
      obtain ⟨⟨⟨⟨⟨⟨⟨⟨⟨⟨⟨⟨⟨h1, h2⟩, h3⟩, h4⟩, h5⟩, h6⟩, h7⟩, h8⟩, h9⟩, h10⟩, h11⟩, h12⟩, h13⟩, h14⟩ := h
      exact ss_par k.calm k.nd (k.slot h1) (k.slot h2) h5 (k.loc h3) (k.loc h4) (sndE a st X _ k h7).1 (sndE b st X _ k h8).1 h9 h10 (sw_par k.kind (k.loc h3) (k.loc h4) h11 (by rw [sq_beq]; exact h12) h9 h10 h13 h14) (outPin_ok h6 i (by simp)) (outPin_ok h6 j (by simp))
    · cases h
  | .aug i op e, st, X, s, k, h => by
    rw [chkS1.eq_def] at h; simp only at h; split at h
    · simp only [Bool.and_eq_true, decide_eq_true_eq] at h
      obtain ⟨⟨⟨⟨rfl, h1⟩, h2⟩, h3⟩, h4⟩ := h
      obtain ⟨g1, g2⟩ := k.sto h2
      exact ss_aug op k.nd (k.slot h1) g1 g2 (sndE e st X _ k h4).1 (outPin_ok h3 i (by simp))
    · cases h
  | .setx b i e, st, X, s, k, h => by
    rw [chkS1.eq_def] at h; simp only at h; split at h
    · simp only [Bool.and_eq_true] at h
      obtain ⟨⟨⟨h1, h2⟩, h3⟩, h4⟩ := h
      exact ss_setx (sndE e st X _ k h3).1 (sndE b st X _ k h1).1 (sndE i st X _ k h2).1 h4
    · cases h
  | .setf b c j e, st, X, s, k, h => by
    rw [chkS1.eq_def] at h; simp only at h; split at h
    · rename_i y n q2 x q
      simp only [Bool.and_eq_true] at h
      obtain ⟨⟨⟨h1, h2⟩, h0⟩, h3⟩ := h
      obtain ⟨p, hp, h4⟩ := List.any_eq_true.mp h3
      rw [Bool.and_eq_true] at h4
      obtain ⟨g1, g2⟩ := h4
      have e1 : p.1 = c := eq_of_beq g1
      obtain ⟨f1, f2⟩ := k.cls p hp
      rw [e1] at f1 f2
      have hn : (T.flds c)[j]? = some n := by
        rw [f1]
        split at g2
        · rename_i m hm
          rw [hm, ← sq_eq g2]
        · cases g2
      exact ss_setf' f2 hn (sndE b st X _ k h1).1 (sndE e st X _ k h2).1 h0
    · cases h
  | .augx b i op e, st, X, s, k, h => by
    rw [chkS1.eq_def] at h; simp only at h; split at h
    · simp only [Bool.and_eq_true, decide_eq_true_eq] at h
      obtain ⟨⟨⟨⟨rfl, h1⟩, h2⟩, h3⟩, h4⟩ := h
      exact ss_augx op (sndE b st X _ k h1).1 (sndE i st X _ k h2).1 (sndE e st X _ k h3).1 h4
    · cases h
  | .exp e, st, X, s, k, h => by
    rw [chkS1.eq_def] at h; simp only at h; split at h
    · rw [Bool.and_eq_true] at h
      exact ss_exp (sndE e st X _ k h.1).1 h.2
    · cases h
  | .ret e, st, X, s, k, h => by
    rw [chkS1.eq_def] at h; simp only at h; split at h
    · exact ss_ret (sndE e st X _ k h).1
    · cases h
  | .retn, st, X, s, k, h => by
    rw [chkS1.eq_def] at h; simp only at h; split at h
    · exact ss_retn
    · cases h
  | .ife c a b, st, X, s, k, h => by
    rw [chkS1.eq_def] at h; simp only at h; split at h
    · simp only [Bool.and_eq_true] at h
      exact ss_if (sndE c st X _ k h.1.1).2 (sndSs a st X _ k h.1.2) (sndSs b st X _ k h.2)
    · cases h
  | .for_ t it b, st, X, s, k, h => by
    rw [chkS1.eq_def] at h; simp only at h; split at h
    · simp only [Bool.and_eq_true] at h
      obtain ⟨⟨⟨⟨h1, h2⟩, h3⟩, h4⟩, h5⟩ := h
      exact ss_for k.po k.calm (sndI it st X _ _ k h1) (sndG t st X _ k h2) (sndSs b st X _ k h5) (outPin_ok h3) h4
    · cases h
  | .whl c b, st, X, s, k, h => by
    rw [chkS1.eq_def] at h; simp only at h; split at h
    · rw [Bool.and_eq_true] at h
      exact ss_whl k.po (sndE c st X _ k h.1).2 (sndSs b st X _ k h.2)
    · cases h
  | .brk, st, X, s, k, h => by
    rw [chkS1.eq_def] at h; simp only at h; split at h
    · exact ss_brk
    · cases h
  | .cnt, st, X, s, k, h => by
    rw [chkS1.eq_def] at h; simp only at h; split at h
    · exact ss_cnt
    · cases h
  | .pas, st, X, s, k, h => by
    rw [chkS1.eq_def] at h; simp only at h; split at h
    · exact ss_pas
    · exact ss_doc
    · cases h
  | .bad, st, X, s, k, h => ss_bad
theorem sndSs : ∀ (ms : Ss) (st : Stat) (X : Cx) (l : List Stmt), XOk T C st X → chkSs ms st l = true → SSs T X st.pin l (exs C ms)
  | .nil, st, X, l, k, h => by
    cases l with
    | nil => exact sss_nil
    | cons _ _ => rw [chkSs.eq_def] at h; cases h
  | .cons m ms, st, X, l, k, h => by
    cases l with
    | nil => rw [chkSs.eq_def] at h; cases h
    | cons s l =>
      rw [chkSs.eq_def] at h
      simp only [Bool.and_eq_true] at h
      exact sss_cons (sndS m st X s k h.1) (sndSs ms st X l k h.2)
end
end
end Mi

namespace Mi
open PySem PySem.Spec L2
open PyProof.Rows hiding St

/-! ## defs -/
section
variable {T : Cls2} {K : PySem.W.Frag} {H H' : Hp} {av av' : Av} {is : List In} {vs : List V} {N : List Str} {n : Nat}
theorem start_lo {i : Nat} (h : i < vs.length) : (L2.start N vs)[i]? = (vs[i]?).map some := by
  unfold L2.start
  rw [List.getElem?_append_left (by simpa using h), List.getElem?_map]
theorem ent_lo {i : Nat} (h : i < is.length) : (is.map In.en ++ List.replicate n En.un)[i]? = (is[i]?).map In.en := by
  rw [List.getElem?_append_left (by simpa using h), List.getElem?_map]
theorem ent_hi {i : Nat} {e : En} (h : ¬ i < is.length) (g : (is.map In.en ++ List.replicate n En.un)[i]? = some e) : e = .un := by
  rw [List.getElem?_append_right (by simpa using h), List.getElem?_replicate] at g
  split at g
  · cases g; rfl
  · cases g
theorem en_own {i : Nat} {a : Addr} (hl : is.length = vs.length) (h : OwnAt (is.map In.en ++ List.replicate n En.un) (L2.start N vs) i a) : OwnIn is vs i a := by
  obtain ⟨h1, h2⟩ := h
  by_cases hi : i < is.length
  · rw [ent_lo hi] at h1
    rw [start_lo (by omega)] at h2
    refine ⟨?_, ?_⟩
    · cases e : is[i]? with
      | none => rw [e] at h1; exact h1.elim
      | some x => rw [e] at h1; cases x <;> first | exact h1.elim | trivial
    · cases e : vs[i]? with
      | none => rw [e] at h2; cases h2
      | some v => rw [e] at h2; cases h2; rfl
  · obtain ⟨o, e⟩ := isOwn_some h1
    cases ent_hi hi e
theorem en_bor {i : Nat} {a : Addr} (hl : is.length = vs.length) (h : BorAt (is.map In.en ++ List.replicate n En.un) (L2.start N vs) i a) : BorIn is vs i a := by
  obtain ⟨h1, h2⟩ := h
  by_cases hi : i < is.length
  · rw [ent_lo hi] at h1
    rw [start_lo (by omega)] at h2
    refine ⟨?_, ?_⟩
    · cases e : is[i]? with
      | none => rw [e] at h1; exact h1.elim
      | some x => rw [e] at h1; cases x <;> first | exact h1.elim | trivial
    · cases e : vs[i]? with
      | none => rw [e] at h2; cases h2
      | some v => rw [e] at h2; cases h2; rfl
  · obtain ⟨o, e⟩ := isBor_some h1
    cases ent_hi hi e
/-- at the entry -/
theorem entry_rel (A : ArgOk T K H av is vs) (hN : N.length = vs.length + n) : Rel T K av (is.map In.en ++ List.replicate n .un) (L2.start N vs) H := by
  have hl := A.rep.length
  refine ⟨?_, fun i e h => ?_, fun i j p h1 h2 h3 h4 => ?_, A.trk⟩
  · unfold L2.start
    rw [List.length_append, List.length_append, List.length_map, List.length_map, List.length_replicate, List.length_replicate]
    omega
  · by_cases hi : i < is.length
    · rw [ent_lo hi] at h
      cases e1 : is[i]? with
      | none => rw [e1] at h; cases h
      | some x =>
        rw [e1] at h
        cases h
        obtain ⟨v, e2, r⟩ := A.rep.get e1
        rw [start_lo (by omega), e2]
        cases x with
        | val d => exact ⟨v, rfl, r⟩
        | own o => obtain ⟨p, rfl, r1, r2⟩ := r; exact ⟨p, rfl, r1, r2⟩
        | bor o => obtain ⟨p, rfl, r1, r2⟩ := r; exact ⟨p, rfl, r1, r2⟩
    · cases ent_hi hi h
      trivial
  · exact A.inj i j p (en_own hl ⟨h1, h3⟩) (h2.imp (fun z => en_own hl ⟨z, h4⟩) fun z => en_bor hl ⟨z, h4⟩)
theorem outs_get : ∀ {is : List In} {Γ : G} {j : Nat} {o : OD}, is[j]? = some (.own o) → (outs is Γ)[j]? = (match Γ[j]? with
    | some (.own o) => some (.own o)
    | some (.val d) => some (.val d)
    | _ => some .non)
  | [], _, _, _, h => by simp at h
  | i :: is, [], j, o, h => by
    have e : outs (i :: is) [] = (i :: is).map fun _ => Out.non := by cases i <;> rfl
    rw [e, List.getElem?_map, h]
    rfl
  | i :: is, e :: Γ, 0, o, h => by
    simp at h
    subst h
    cases e <;> rfl
  | i :: is, e :: Γ, j + 1, o, h => by
    have e1 : ∃ x, outs (i :: is) (e :: Γ) = x :: outs is Γ := by cases i <;> exact ⟨_, rfl⟩
    obtain ⟨x, e1⟩ := e1
    rw [e1]
    simpa using outs_get (j := j) (Γ := Γ) (by simpa using h)
def RetV (T : Cls2) (K : PySem.W.Frag) (H H' : Hp) (av' : Av) (v : V) : Rt → Prop
  | .val d => Rep T K H' av' d v
  | .fr o => ∃ p, v = .ref p ∧ H p = none ∧ av' p ∧ ORep T K H' av' o p
/-- the end of a def: what it leaves -/
theorem end_ok {Γ : G} {σ : St} {pin : List Nat} {q : Rt} {v : V} (A : ArgOk T K H av is vs) (hN : N.length = vs.length + n) (P : PostS T K pin (L2.start N vs) av (is.map In.en ++ List.replicate n .un) H σ Γ H' av')
    (hp : ∀ j : Nat, InOwn is[j]? → j ∈ pin) (ret : RetV T K H H' av' v q) : RetOk T K H av is vs q (outs is Γ) v H' av' := by
  have hl := A.rep.length
  have no : ∀ {a}, (∀ j, ¬ OwnIn is vs j a) → ¬ OwnS (is.map In.en ++ List.replicate n En.un) (L2.start N vs) a := fun {a} h ⟨i, z⟩ => h i (en_own hl z)
  refine ⟨by cases q <;> exact ret, fun j a z => ?_, fun a o h n => P.fra.keep a o h (no n), P.fra.thr, fun a h n => P.fra.av1 a h (no n), P.fra.av2, P.rel.trk⟩
  obtain ⟨z1, z2⟩ := z
  have hj : j < vs.length := (List.getElem?_eq_some_iff.mp z2).1
  have hσ : σ[j]? = some (some (V.ref a)) := by
    rw [P.pin j (hp j z1), start_lo hj, z2]
    rfl
  cases e : is[j]? with
  | none => rw [e] at z1; exact z1.elim
  | some x =>
    rw [e] at z1
    cases x with
    | own o =>
      rw [outs_get e]
      cases g : Γ[j]? with
      | none => exact trivial
      | some en =>
        cases en with
        | un => exact trivial
        | bor o => exact trivial
        | val d =>
          obtain ⟨w, h1, h2⟩ := P.rel.ent j _ g
          rw [hσ] at h1
          cases h1
          exact h2
        | own o =>
          obtain ⟨p, h1, h2, h3⟩ := P.rel.own g
          rw [hσ] at h1
          cases h1
          exact ⟨h2, h3⟩
    | _ => exact z1.elim
theorem endR_ok {Γ Γ' : G} {σ : St} {pin : List Nat} {r : R} {q : Rt} {v : V} {m : Nat} (A : ArgOk T K H av is vs) (hN : N.length = vs.length + n) (hm : m = vs.length) (P : PostS T K pin (L2.start N vs) av (is.map In.en ++ List.replicate n .un) H σ Γ H' av')
    (hp : ∀ j : Nat, InOwn is[j]? → j ∈ pin) (rr : RRep T K H σ Γ H' av' r v) (e : endR m Γ r = some (q, Γ')) : ∃ av2, RetOk T K H av is vs q (outs is Γ') v H' av2 := by
  have rl0 := entry_rel (n := n) A hN
  have hl := A.rep.length
  cases r with
  | val d => cases e; exact ⟨av', end_ok A hN P hp rr⟩
  | fr o =>
    cases e
    obtain ⟨p, rfl, h1, h2, h3, h4⟩ := rr
    exact ⟨av', end_ok (q := .fr o) A hN P hp ⟨p, rfl, h3, h2, h1⟩⟩
  | loc i =>
    obtain ⟨p, rfl, hpi⟩ := rr
    unfold endR at e
    simp only at e
    split at e
    · rename_i o ho
      obtain ⟨_, u, hu, w⟩ := P.rel.heldAt (.inl (.mk' ho hpi))
      split at e
      · rename_i hi
        cases e
        obtain ⟨r2, q2⟩ := P.rel.release ho hpi
        refine ⟨_, end_ok A hN (⟨r2, ⟨P.fra.keep, P.fra.thr, fun a z n => ⟨P.fra.av1 a z n, fun q => ?_⟩, fun a o' z n q => P.fra.av2 a o' z n q.1, fun j a z => P.fra.own j a (set_own (e := .val o.d) (fun z => z) z).1, fun j a z => P.fra.bor j a (set_bor (e := .val o.d) (fun z => z) z).1⟩, P.pin⟩ : PostS T K pin _ _ _ _ _ _ _ _) hp q2⟩
        subst q
        rcases P.fra.own i a (.mk' ho hpi) with z' | z'
        · exact n ⟨i, z'⟩
        · obtain ⟨o', h'⟩ := rl0.trk a z
          rw [z'] at h'
          cases h'
      · rename_i hi
        cases e
        obtain ⟨p', h1, h2, h3⟩ := P.rel.own ho
        rw [hpi] at h1
        cases h1
        have hn : H p = none := by
          rcases P.fra.own i p (.mk' ho hpi) with z | z
          · have := en_own hl z
            have h9 := (List.getElem?_eq_some_iff.mp this.2).1
            omega
          · exact z
        refine ⟨av', end_ok (q := .fr o) A hN (⟨P.rel.take i, ⟨P.fra.keep, P.fra.thr, P.fra.av1, P.fra.av2, fun j a z => P.fra.own j a (set_own (e := .un) (fun z => z) z).1, fun j a z => P.fra.bor j a (set_bor (e := .un) (fun z => z) z).1⟩, P.pin⟩ : PostS T K pin _ _ _ _ _ _ _ _) hp ⟨p, rfl, hn, h2, h3⟩⟩
    · cases e
end
theorem parOk_own : ∀ {ps : List Bool} {is : List In} {j : Nat}, parOk ps is = true → InOwn is[j]? → ps[j]? = some true
  | [], [], j, _, h => by simp at h; exact h.elim
  | p :: ps, i :: is, 0, h, g => by
    cases i with
    | val d => exact g.elim
    | own o => cases p with
      | true => rfl
      | false => cases h
    | bor o => exact g.elim
  | p :: ps, i :: is, j + 1, h, g => by
    have h' : parOk ps is = true := by cases i <;> cases p <;> first | exact h | cases h
    simpa using parOk_own h' (by simpa using g)
  | [], _ :: _, _, h, _ => by cases h
  | _ :: _, [], _, h, g => by simp at g; exact g.elim
theorem parOk_len : ∀ {ps : List Bool} {is : List In}, parOk ps is = true → is.length = ps.length
  | [], [], _ => rfl
  | p :: ps, i :: is, h => by
    have h' : parOk ps is = true := by cases i <;> cases p <;> first | exact h | cases h
    rw [List.length_cons, List.length_cons, parOk_len h']
  | [], _ :: _, h => by cases h
  | p :: _, [], h => by cases p <;> cases h
/-- a def of the text and its term -/
structure DefS (d : He.DefD) (st : Stat) (df : Df) (ps : List Str) : Prop where
  sc : FnScope st.N ps d.scope
  scq : d.scope = st.sc
  fnc : st.fnc = true
  pin : ∀ j : Nat, df.par[j]? = some true → j ∈ st.pin
  len : df.par.length = ps.length
  loc : st.N.length = ps.length + df.loc
  chk : chkSs df.body st d.body = true
section
variable {T : Cls2} {C : Ctx} {P : Program} {w : World} {K : PySem.W.Frag} {mg : Str → Option Value} {base : Heap} {dvs : List V} {kws : List (Str × V)} {f : Addr} {fd : FuncData} {d : He.DefD} {st : Stat} {df : Df} {ps : List Str} {k : Nat}
theorem def_ok (F : FunD K d.name d.qual d.params d.body d.scope dvs kws f fd) (S : DefS d st df ps) (hC : ∀ A, Room k A → A.guards = some [] → ∀ p ∈ st.fns, FnC T C P w K mg base A p) (hb : ∀ x, bltB x = true → mg x = none)
    (hg : ∀ p ∈ st.gls, ∃ v u, mg p.2 = some u ∧ RelV v u ∧ ∀ H av, Rep T K H av (C.gl p.1) v) (hcl : ∀ p ∈ st.cls, T.flds p.1 = p.2 ∧ ClC T K p.1) (hmt : ∀ A, Room k A → A.guards = some [] → ∀ p ∈ st.mts, MtC T C P w K mg base A p)
    (hmk : ∀ A, Room k A → A.guards = some [] → ∀ p ∈ st.mks, MkC T C P w K mg base A p ∧ p.fi.src[0]? = some (.arg 0)) (hkd : ∀ p ∈ st.kds, ∃ d, mg p.2 = some (.ref d) ∧ KdOk T K w d (C.kd p.1))
    (hln : ∀ A, Room k A → A.guards = some [] → ∀ p ∈ st.lns, LnC T C P w K mg base A p) : FnG P w K mg base CX0 (k + 1) f fd ps (spOf T K ps.length (runD C df)) := by
  refine fnG_def F S.sc (fun vs H Q E h => h.1) (fun cdv A outer s H vs Q E hr hgd h => ?_)
  obtain ⟨hn, av, is, rt, os, ao, e, q⟩ := h
  have kx : XOk T C st (cxOf CX0 P w K mg base st.N d.qual d.scope f cdv A outer s H E).nox := ⟨rfl, S.sc.nd, S.scq, rfl, fun _ _ => rfl, hr.units, hgd, rfl, S.sc.kind, hb, hC _ hr hgd, hg, hcl, hmt _ hr hgd, hmk _ hr hgd, hkd, hln _ hr hgd⟩
  have body := sndSs df.body st _ d.body kx S.chk
  refine ⟨_, PSs.nox body, ?_⟩
  have hl := ao.rep.length
  unfold runD at e
  split at e
  · rename_i hpar
    have hpl := parOk_len hpar
    have hN : st.N.length = vs.length + df.loc := by rw [hn]; exact S.loc
    have hpin : ∀ j : Nat, InOwn is[j]? → j ∈ st.pin := fun j z => S.pin j (parOk_own hpar z)
    obtain ⟨⟨fl, Γ⟩, e1, e⟩ := Option.bind_eq_some_iff.mp e
    refine ⟨av, _, fl, Γ, entry_rel ao hN, e1, fun σ' H' av' PS => ?_⟩
    cases fl with
    | nx => cases e; exact q .non H' av' (end_ok (q := .val .non) ao hN PS hpin (show Rep T K H' av' .non .non from rnon))
    | bk => cases e
    | ct => cases e
    | rt r =>
      obtain ⟨⟨qq, Γ'⟩, e2, e⟩ := Option.map_eq_some_iff.mp e
      cases e
      intro v rr
      obtain ⟨av2, ro⟩ := endR_ok ao hN (by rw [← hpl, hl]) PS hpin rr e2
      exact q v H' av2 ro
  · cases e
end
/-! ## scopes, told by the kernel -/
def ndB : List Str → Bool
  | [] => true
  | x :: xs => !(xs.any (sq x)) && ndB xs
theorem ndB_ok : ∀ {l : List Str}, ndB l = true → l.Nodup
  | [], _ => .nil
  | x :: xs, h => by
    rw [ndB, Bool.and_eq_true, Bool.not_eq_true'] at h
    refine List.nodup_cons.mpr ⟨fun z => ?_, ndB_ok h.2⟩
    rw [List.any_eq_false] at h
    exact h.1 x z (sq_self x)
def sqs : List Str → List Str → Bool
  | [], [] => true
  | x :: xs, y :: ys => sq x y && sqs xs ys
  | _, _ => false
theorem sqs_eq : ∀ {a b : List Str}, sqs a b = true → a = b
  | [], [], _ => rfl
  | x :: xs, y :: ys, h => by
    rw [sqs, Bool.and_eq_true] at h
    rw [sq_eq h.1, sqs_eq h.2]
  | [], _ :: _, h => by cases h
  | _ :: _, [], h => by cases h
def scB (N ps : List Str) (sc : Scope) : Bool := (match sc.kind with | .function => true | _ => false) && !sc.isCoroutine && !sc.isGenerator && ndB N && sqs (N.take ps.length) ps &&
  (ps.all fun x => match lkS sc.names x with | some .local => true | some .cell => true | _ => false) && sc.names.all fun y => match y.2 with | .free => false | _ => true
theorem scB_ok {N ps : List Str} {sc : Scope} (h : scB N ps sc = true) : FnScope N ps sc := by
  unfold scB at h
  simp only [Bool.and_eq_true, Bool.not_eq_true'] at h
  obtain ⟨⟨⟨⟨⟨⟨h1, h2⟩, h3⟩, h4⟩, h5⟩, h6⟩, h7⟩ := h
  refine ⟨?_, h2, h3, ndB_ok h4, sqs_eq h5, fun x hx => ?_, fun y hy z => ?_⟩
  · split at h1
    · assumption
    · cases h1
  · have := List.all_eq_true.mp h6 x hx
    rw [lkS_eq] at this
    split at this
    · rename_i e; exact .inl e
    · rename_i e; exact .inr e
    · cases this
  · have := List.all_eq_true.mp h7 y hy
    rw [z] at this
    cases this
def pinB (par : List Bool) (pin : List Nat) : Bool := (List.range par.length).all fun j => !(par.getD j false) || pin.contains j
theorem pinB_ok {par : List Bool} {pin : List Nat} (h : pinB par pin = true) (j : Nat) (hj : par[j]? = some true) : j ∈ pin := by
  have hl := (List.getElem?_eq_some_iff.mp hj).1
  have := List.all_eq_true.mp h j (List.mem_range.mpr hl)
  rw [List.getD_eq_getElem?_getD, hj] at this
  simpa using this
/-- one def told by the kernel: its term, its names, how many parameters -/
def defB (d : He.DefD) (st : Stat) (df : Df) (ps : List Str) : Bool := scB st.N ps d.scope && st.fnc && pinB df.par st.pin && (df.par.length == ps.length) && (st.N.length == ps.length + df.loc) && chkSs df.body st d.body
theorem defB_ok {d : He.DefD} {st : Stat} {df : Df} {ps : List Str} (hs : d.scope = st.sc) (h : defB d st df ps = true) : DefS d st df ps := by
  unfold defB at h
  simp only [Bool.and_eq_true] at h
  obtain ⟨⟨⟨⟨⟨h1, h2⟩, h3⟩, h4⟩, h5⟩, h6⟩ := h
  exact ⟨scB_ok h1, hs, h2, pinB_ok h3, eq_of_beq h4, eq_of_beq h5, h6⟩
/-! ## a whole text -/
/-- how a way to call binds -/
structure PatK (T : Cls2) (K : PySem.W.Frag) (fd : FuncData) (ps : List Str) (p : FI) : Prop where
  len : p.src.length = ps.length
  nd : SrcNd p.src
  ex : ∃ (g : List Value → List Value → List Value) (gV : List V → List V → List V), KBn K fd ps p.n p.ks g gV ∧ ∀ vs zs : List V, vs.length = p.n → zs.length = p.ks.length → SrcV T K (vs ++ zs) p.src (gV vs zs)
def argsL (i n : Nat) : List Src := (List.range' i n).map Src.arg
theorem argsL_v {T : Cls2} {K : PySem.W.Frag} : ∀ {n i : Nat} {ws us : List V}, ws.drop i = us → us.length = n → SrcV T K ws (argsL i n) us
  | 0, _, _, us, _, h => List.eq_nil_of_length_eq_zero h
  | n + 1, i, ws, us, e, h => by
    cases us with
    | nil => cases h
    | cons v us =>
      have h1 : ws[i]? = some v := by
        have := congrArg (fun l => l[0]?) e
        simpa using this
      have h2 : ws.drop (i + 1) = us := by
        have := congrArg List.tail e
        simpa using this
      exact ⟨v, us, rfl, h1, argsL_v h2 (by simpa using h)⟩
theorem argsL_nd {n i : Nat} : SrcNd (argsL i n) := by
  intro a b c h1 h2
  unfold argsL at h1 h2
  rw [List.getElem?_map] at h1 h2
  obtain ⟨x, e1, e2⟩ := Option.map_eq_some_iff.mp h1
  obtain ⟨y, e3, e4⟩ := Option.map_eq_some_iff.mp h2
  cases e2
  cases e4
  obtain ⟨l1, g1⟩ := List.getElem?_eq_some_iff.mp e1
  obtain ⟨l2, g2⟩ := List.getElem?_eq_some_iff.mp e3
  rw [List.getElem_range'] at g1 g2
  omega
theorem pat_pos {T : Cls2} {K : PySem.W.Frag} {fd : FuncData} {ps : List Str} {f : Nat} {nm : Str} (b : Binds K fd ps []) : PatK T K fd ps ⟨f, nm, ps.length, [], argsL 0 ps.length⟩ := by
  refine ⟨by unfold argsL; simp, argsL_nd, fun us _ => us, fun vs _ => vs, ⟨fun s us ws X h1 h2 => ?_, fun h _ => h⟩, fun vs zs h1 h2 => ?_⟩
  · have := b s us X (by rw [List.append_nil]; exact h1)
    rw [List.append_nil] at this
    exact this
  · have : zs = [] := List.eq_nil_of_length_eq_zero h2
    subst this
    exact argsL_v (by simp) h1
section
variable {T : Cls2} {P : Program} {w : World} {K : PySem.W.Frag} {mg : Str → Option Value} {base : Heap} {fn : List He.DefD} {fds : Nat → FuncData} {st : Nat → Stat} {df : Nat → Df} {ps : Nat → List Str} {gl : Nat → D} {wf : Nat} {kd : Nat → List (Str × D)}
/-- what a text's defs are, told by names -/
structure Says (T : Cls2) (w : World) (K : PySem.W.Frag) (mg : Str → Option Value) (fn : List He.DefD) (fds : Nat → FuncData) (st : Nat → Stat) (df : Nat → Df) (ps : Nat → List Str) (gl : Nat → D) (kd : Nat → List (Str × D)) : Prop where
  fun_ : ∀ i d, fn[i]? = some d → FunD K d.name d.qual d.params d.body d.scope (d.dvs K) (d.kws K) (He.fAd K d.at_) (fds i)
  def_ : ∀ i d, fn[i]? = some d → DefS d (st i) (df i) (ps i)
  pat : ∀ i d, fn[i]? = some d → ∀ p ∈ (st i).fns, ∃ e, fn[p.f]? = some e ∧ mg p.nm = some (.ref (He.fAd K e.at_)) ∧ PatK T K (fds p.f) (ps p.f) p
  blt : ∀ x, bltB x = true → mg x = none
  gls : ∀ i d, fn[i]? = some d → ∀ p ∈ (st i).gls, ∃ v u, mg p.2 = some u ∧ RelV v u ∧ ∀ H av, Rep T K H av (gl p.1) v
  cls : ∀ i d, fn[i]? = some d → ∀ p ∈ (st i).cls, T.flds p.1 = p.2 ∧ ClC T K p.1
  mts : ∀ i d, fn[i]? = some d → ∀ p ∈ (st i).mts, ∃ e, fn[p.fi.f]? = some e ∧ Cls K (T.cls p.c) ∧ (∀ xs : List V, ((T.flds p.c).zip xs).lookup p.fi.nm = none) ∧ Meth K (T.cls p.c) p.fi.nm (He.fAd K e.at_) ∧ PatK T K (fds p.fi.f) (ps p.fi.f) p.fi
  mks : ∀ i d, fn[i]? = some d → ∀ p ∈ (st i).mks, ∃ e, fn[p.fi.f]? = some e ∧ mg p.fi.nm = some (.ref (T.cls p.c)) ∧ Mk K (T.cls p.c) (He.fAd K e.at_) ∧ PatK T K (fds p.fi.f) (ps p.fi.f) p.fi ∧ p.fi.src[0]? = some (.arg 0)
  kds : ∀ i d, fn[i]? = some d → ∀ p ∈ (st i).kds, ∃ a, mg p.2 = some (.ref a) ∧ KdOk T K w a (kd p.1)
  lns : ∀ i d, fn[i]? = some d → ∀ p ∈ (st i).lns, ∃ e, fn[p.fi.f]? = some e ∧ Meth K (T.cls p.c) p.fi.nm (He.fAd K e.at_) ∧ PatK T K (fds p.fi.f) (ps p.fi.f) p.fi
theorem text_ok (S : Says T w K mg fn fds st df ps gl kd) : ∀ (k i : Nat) (d : He.DefD), fn[i]? = some d → FnG P w K mg base CX0 k (He.fAd K d.at_) (fds i) (ps i) (spOf T K (ps i).length (run gl wf df kd k i))
  | 0, i, d, h => ⟨fun vs H Q E z => z.1, fun A outer s H args us vs Q E hr hgd he hb hv hs => by
      obtain ⟨_, av, is, rt, os, _, e, _⟩ := hs
      cases e⟩
  | k + 1, i, d, h => by
    refine def_ok (C := { ft := run gl wf df kd k, gl := gl, wf := wf, fi := (run2 gl wf df kd k).2, kd := kd }) (S.fun_ i d h) (S.def_ i d h) (fun A hr hgd p hp => ?_) S.blt (S.gls i d h) (S.cls i d h) (fun A hr hgd p hp => ?_) (fun A hr hgd p hp => ?_) (S.kds i d h) (fun A hr hgd p hp => ?_)
    rotate_left
    · obtain ⟨e, h1, h2, h3, h4, pk⟩ := S.mts i d h p hp
      obtain ⟨g, gV, b1, b2⟩ := pk.ex
      have ih := text_ok S k p.fi.f e h1
      rw [← pk.len] at ih
      exact ⟨h2, h3, _, h4, ⟨fds p.fi.f, ps p.fi.f, k, g, gV, ih, ⟨hr, hgd⟩, b1, b2⟩, pk.nd⟩
    · obtain ⟨e, h1, h2, h3, pk, h4⟩ := S.mks i d h p hp
      refine ⟨⟨h2, ?_⟩, h4⟩
      match k, hr with
      | 0, _ => exact .inl fun _ => rfl
      | j + 1, hr =>
        obtain ⟨g, gV, b1, b2⟩ := pk.ex
        have ih := text_ok S j p.fi.f e h1
        rw [← pk.len] at ih
        exact .inr ⟨_, h3, ⟨fds p.fi.f, ps p.fi.f, j, g, gV, ih, ⟨hr, hgd⟩, b1, b2⟩, pk.nd⟩
    · obtain ⟨e, h1, h3, pk⟩ := S.lns i d h p hp
      refine ⟨?_⟩
      match k, hr with
      | 0, _ => exact .inl fun _ => rfl
      | j + 1, hr =>
        obtain ⟨g, gV, b1, b2⟩ := pk.ex
        have ih := text_ok S j p.fi.f e h1
        rw [← pk.len] at ih
        exact .inr ⟨_, h3, ⟨fds p.fi.f, ps p.fi.f, j, g, gV, ih, ⟨hr, hgd⟩, b1, b2⟩, pk.nd⟩
    obtain ⟨e, h1, h2, pk⟩ := S.pat i d h p hp
    obtain ⟨g, gV, b1, b2⟩ := pk.ex
    have ih := text_ok S k p.f e h1
    rw [← pk.len] at ih
    exact ⟨⟨_, fds p.f, ps p.f, k, g, gV, h2, (S.fun_ p.f e h1).kp, ih, ⟨hr, hgd⟩, b1, b2⟩, pk.nd⟩
theorem ints_reps {H : Hp} {av : Av} : ∀ ns : List Int, Reps T K H av (ns.map D.int) (ns.map V.int)
  | [] => .nil
  | n :: ns => .cons rint (ints_reps ns)
/-- THE LAW -/
theorem law_ok (S : Says T w K mg fn fds st df ps gl kd) {k i : Nat} {d : He.DefD} {x : Str} (h : fn[i]? = some d) (hx : ps i = [x]) {m : Nat} (res : ∀ ns : List Int, ns.length ≤ m → ∃ wf os, run gl wf df kd k i [.val (.scr (ns.map D.int))] = some (.val (.bl true), os)) :
    ∃ sp : Sp, (∀ (H : Hp) (a : Addr) (ns : List Int), ns.length ≤ m → SqL K H a (ns.map V.int) → sp [.ref a] H (fun v _ => v = .bl true) fun _ _ _ => False) ∧ ∀ base : Heap, FnG P w K mg base CX0 k (He.fAd K d.at_) (fds i) [x] sp := by
  refine ⟨fun vs H Q E => ∃ wf, spOf T K 1 (run gl wf df kd k i) vs H Q E, fun H a ns hl hS => ?_, fun base => ?_⟩
  · obtain ⟨wf, os, e⟩ := res ns hl
    have r : Rep T K H (fun _ => False) (.scr (ns.map D.int)) (.ref a) := by
      unfold Rep
      refine ⟨a, _, rfl, ?_, ints_reps ns⟩
      rcases hS with h | h
      · exact .inl ⟨h, fun z => z⟩
      · exact .inr h
    have ao : ArgOk T K H (fun _ => False) [.val (.scr (ns.map D.int))] [.ref a] := by
      refine ⟨⟨_, [], rfl, r, rfl⟩, fun j k b z => ?_, fun a z => z.elim⟩
      obtain ⟨z, _⟩ := z
      cases j with
      | zero => exact z.elim
      | succ j => simp at z; exact z.elim
    exact ⟨wf, rfl, fun _ => False, _, _, os, ao, e, fun v H' av' R => vbl (Rep.vrep (show Rep T K H' av' (.bl true) v from R.ret))⟩
  · have F := fun wf => text_ok (P := P) (w := w) (base := base) (wf := wf) S k i d h
    rw [hx] at F
    exact ⟨fun vs H Q E ⟨wf, z⟩ => (F wf).len vs H Q E z, fun A outer s H args us vs Q E hr hgd he hb hv ⟨wf, z⟩ => (F wf).run A outer s H args us vs Q E hr hgd he hb hv z⟩
end
end Mi

namespace Mi
open PySem PySem.Spec L2
open PyProof.Rows hiding St

/-! ## from a text's facts to the law's end -/
section
variable {fa : List He.Fa} {fn : List He.DefD} {K : PySem.W.Frag} {h : Heap} {mg : Str → Option Value}
theorem fact_in (c : He.SaysD fa fn K) {f : He.Fa} (hf : f ∈ fa) : f.ok K = true := by
  obtain ⟨i, e⟩ := List.mem_iff_getElem?.mp hf
  exact c.fact i e
theorem glo_at (X : K.In h) (G : h.Ns mainGlobals mg) (c : He.SaysD fa fn K) {x : Str} (hf : He.Fa.glo x ∈ fa) : mg x = some (.ref (He.fAd K (x, none))) := He.glo_ok X G (fact_in c hf)
theorem blt_at (X : K.In h) (G : h.Ns mainGlobals mg) (c : He.SaysD fa fn K) (hs : ∀ x ∈ bltL, He.Fa.free x ∈ fa) (x : Str) (hx : bltB x = true) : mg x = none := by
  obtain ⟨y, hy, e⟩ := List.any_eq_true.mp hx
  rw [sq_eq e]
  exact He.free_ok X G (fact_in c (hs y hy))
theorem funs_at (c : He.SaysD fa fn K) {j : Nat} {d0 : He.DefD} (h0 : fn[j]? = some d0) : ∃ fds : Nat → FuncData, ∀ (i : Nat) (d : He.DefD), fn[i]? = some d → FunD K d.name d.qual d.params d.body d.scope (d.dvs K) (d.kws K) (He.fAd K d.at_) (fds i) := by
  have : ∀ i : Nat, ∃ fd, ∀ d : He.DefD, fn[i]? = some d → FunD K d.name d.qual d.params d.body d.scope (d.dvs K) (d.kws K) (He.fAd K d.at_) fd := fun i => by
    cases e : fn[i]? with
    | none => exact ⟨(c.def_ j h0).choose, fun d z => by cases z⟩
    | some d =>
      obtain ⟨fd, F⟩ := c.def_ i e
      exact ⟨fd, fun d' z => by cases z; exact F⟩
  exact ⟨fun i => (this i).choose, fun i => (this i).choose_spec⟩
end
/-! ### the hook: facts, defs, tables, one more Bool of the text's part -/
section
open He
abbrev AlE : Type := AlT × Bool
def obsE (n : Nat) (fa : List Fa) (fn : List DefD) (ts : List Tab) (ex : PySem.W.Frag → Bool) (g : Addr → Option Obj) : AlE := (obsT fa fn ts (frG g (asD g n)), ex (frG g (asD g n)))
def valE (fn : List DefD) (ts : List Tab) (w : World) : AlE := (valT fn ts w, true)
structure SaysE (fa : List Fa) (fn : List DefD) (ts : List Tab) (ex : PySem.W.Frag → Bool) (w : World) (K : PySem.W.Frag) : Prop where
  t : SaysT fa fn ts w K
  more : ex K = true
def hookE (n : Nat) (fa : List Fa) (fn : List DefD) (ts : List Tab) (ex : PySem.W.Frag → Bool) : PySem.W.Hook where
  α := AlE
  obs := fun s => obsE n fa fn ts ex s.heap.get?
  val := fun w => valE fn ts w
  says := fun w h => ∃ K : PySem.W.Frag, K.In h ∧ SaysE fa fn ts ex w K
  of := fun _ _ e => ⟨_, frG_in, ⟨congrArg (fun z : AlE => z.1) e, congrArg (fun z : AlE => z.2) e⟩⟩
  keeps := fun _ _ _ ⟨K, hK, c⟩ k => ⟨K, PySem.W.Frag.In.keeps hK k, c⟩
theorem obsE_eq {n : Nat} {fa : List Fa} {fn : List DefD} {ts : List Tab} {ex : PySem.W.Frag → Bool} {g : Addr → Option Obj} {s : Shared} (h : ∀ a, g a = s.heap.get? a) : obsE n fa fn ts ex g = (hookE n fa fn ts ex).obs s := by
  have e : g = s.heap.get? := funext h
  rw [e] <;> rfl
end
/-- a written dict with text keys, told by the head -/
theorem kd_ok {T : Cls2} {K : PySem.W.Frag} {w : World} {d : Addr} {kvs : List (Str × D)} {dvs : List (Str × He.Dv)} (h1 : He.dicW K d = some (He.keysIn w.params (kvs.map (·.1)))) (h2 : He.valsB K d dvs = true) (hk : dvs.map (·.1) = kvs.map (·.1))
    (hv : ∀ (i : Nat) (p : Str × D) (q : Str × He.Dv), kvs[i]? = some p → dvs[i]? = some q → ∀ H av, Rep T K H av p.2 (q.2.v K)) : KdOk T K w d kvs := by
  obtain ⟨es, n, kd⟩ := He.dicW_ok h1
  refine ⟨⟨es, n, kd⟩, fun x => ?_⟩
  have hes : es.toList.map He.keyOf = He.keysIn w.params (kvs.map (·.1)) := by
    unfold He.dicW at h1
    rw [kd.at_] at h1
    rw [kd.low] at h1
    exact Option.some.inj h1
  cases hf : kvs.find? (fun p => p.1 == x) with
  | some p =>
    have hp := List.find?_some hf
    have hx : p.1 = x := eq_of_beq hp
    obtain ⟨i, hi⟩ := List.mem_iff_getElem?.mp (List.mem_of_find?_eq_some hf)
    have hl : dvs.length = kvs.length := by simpa using congrArg List.length hk
    have hil : i < dvs.length := by rw [hl]; exact (List.getElem?_eq_some_iff.mp hi).1
    have e1 : (dvs.map (·.1))[i]? = (kvs.map (·.1))[i]? := by rw [hk]
    rw [List.getElem?_map, List.getElem?_map, hi, List.getElem?_eq_getElem hil] at e1
    have e2 : dvs[i].1 = p.1 := by simpa using e1
    obtain ⟨u, g1, g2⟩ := He.valsB_ok h2 (List.getElem_mem hil)
    rw [e2, hx] at g1
    refine ⟨some u, g1, .inr ⟨u, _, p.2, rfl, by unfold kfind; rw [hf]; rfl, g2, fun H av => ?_⟩⟩
    exact hv i p _ hi (List.getElem?_eq_getElem hil) H av
  | none =>
    have hno := List.find?_eq_none.mp hf
    refine ⟨none, ?_, .inl ⟨rfl, by unfold kfind; rw [hf]; rfl⟩⟩
    have key : ∀ (l : List DictEntry) (ks : List Str), l.map He.keyOf = He.keysIn w.params ks → (∀ k ∈ ks, (k == x) = false) → l.find? (fun e => e.key.isStr x) = none ∧ l.any (fun e => e.refKey) = false := by
      intro l
      induction l with
      | nil => intro ks _ _; exact ⟨rfl, rfl⟩
      | cons e l ih =>
        intro ks hks hx
        cases ks with
        | nil => cases hks
        | cons k ks =>
          have hks : He.keyOf e :: l.map He.keyOf = some (k, PyData.keyHash w.params k) :: He.keysIn w.params ks := hks
          injection hks with q1 q2
          obtain ⟨i1, i2⟩ := ih ks q2 fun k' hk' => hx k' (List.mem_cons_of_mem _ hk')
          unfold He.keyOf at q1
          split at q1
          · rename_i y t hy
            have q3 := Option.some.inj q1
            obtain ⟨q4, q5⟩ := Prod.mk.inj q3
            subst q4
            have hyx := hx y List.mem_cons_self
            refine ⟨?_, ?_⟩
            · rw [List.find?_cons]
              have : e.key.isStr x = false := by
                rw [hy]
                show (y == x) = false
                exact hyx
              rw [this]
              exact i1
            · rw [List.any_cons, i2]
              have : e.refKey = false := by
                unfold DictEntry.refKey
                rw [hy] <;> rfl
              rw [this]; rfl
          · cases q1
    obtain ⟨i1, i2⟩ := key es.toList _ hes fun k hk' => by
      obtain ⟨p, hp, rfl⟩ := List.mem_map.mp hk'
      have := hno p hp
      simpa using this
    unfold PySem.W.nsIn
    rw [kd.at_]
    simp only [i1, i2]
    rfl
theorem lookup_no {fs : List Str} {m : Str} (h : fs.any (sq m) = false) : ∀ xs : List V, (fs.zip xs).lookup m = none := by
  induction fs with
  | nil => intro xs; rfl
  | cons f fs ih =>
    intro xs
    rw [List.any_cons, Bool.or_eq_false_iff] at h
    cases xs with
    | nil => rfl
    | cons x xs =>
      rw [List.zip_cons_cons, List.lookup_cons, sq_beq, h.1]
      exact ih h.2 xs
theorem tab_at {fa : List He.Fa} {fn : List He.DefD} {ts : List He.Tab} {w : World} {K : PySem.W.Frag} (c : He.SaysT fa fn ts w K) (i : Nat) {t : He.Tab} (h : ts[i]? = some t) : He.dicW K (t.1 K) = some (He.keysIn w.params t.2) := by
  have e : ts.map (fun t => He.dicW K (t.1 K)) = ts.map fun t => some (He.keysIn w.params t.2) := congrArg (fun z : He.AlT => z.2) c
  have e2 : (ts.map fun t => He.dicW K (t.1 K))[i]? = (ts.map fun t => some (He.keysIn w.params t.2))[i]? := by rw [e]
  rw [List.getElem?_map, List.getElem?_map, h] at e2
  exact Option.some.inj e2
def dvB : D → He.Dv → Bool
  | .non, .non => true
  | .bl a, .bl b => a == b
  | .int i, .int j => i == j
  | .str x, .str y => sq x y
  | _, _ => false
theorem dvB_rep {T : Cls2} {K : PySem.W.Frag} {d : D} {v : He.Dv} (h : dvB d v = true) (H : Hp) (av : Av) : Rep T K H av d (v.v K) := by
  unfold dvB at h
  split at h
  · exact rnon
  · rw [eq_of_beq h]; exact rbl
  · rw [eq_of_beq h]; exact rint
  · rw [sq_eq h]; exact rstr
  · cases h
def kvB : List (Str × D) → List (Str × He.Dv) → Bool
  | [], [] => true
  | p :: ps, q :: qs => dvB p.2 q.2 && kvB ps qs
  | _, _ => false
theorem kv_rep {T : Cls2} {K : PySem.W.Frag} : ∀ {kvs : List (Str × D)} {dvs : List (Str × He.Dv)}, kvB kvs dvs = true → ∀ (i : Nat) (p : Str × D) (q : Str × He.Dv), kvs[i]? = some p → dvs[i]? = some q → ∀ H av, Rep T K H av p.2 (q.2.v K)
  | [], _, _, i, p, q, h, _ => by simp at h
  | p0 :: ps, [], h, _, _, _, _, _ => by cases h
  | p0 :: ps, q0 :: qs, h, i, p, q, h1, h2 => by
    rw [kvB, Bool.and_eq_true] at h
    cases i with
    | zero =>
      simp at h1 h2
      subst h1 h2
      exact fun H av => dvB_rep h.1 H av
    | succ i => exact kv_rep h.2 i p q (by simpa using h1) (by simpa using h2)
theorem law_end {l : PySem.W.OpenLaw} {q : Program} {loose : List Str} {XP : (Str → Option Value) → Heap → Prop} {dr : DefRec} {fa : List He.Fa} {fn : List He.DefD} {ts : List He.Tab} {ex : PySem.W.Frag → Bool} {st : Nat → Stat} {df : Nat → Df} {ps : Nat → List Str} {gl : Nat → D} {kd : Nat → List (Str × D)} {T : PySem.W.Frag → Cls2} {m k i n : Nat} {d : He.DefD} {x : Str}
    (hm : l.most = some m) (hm2 : m ≤ sizeLine) (hdf : dr.params.defaults = []) (hr : Room k callerA) (hd : fn[i]? = some d) (hx : ps i = [x]) (hn : d.at_ = (dr.name, none)) (hgl : He.Fa.glo dr.name ∈ fa)
    (S : ∀ (w : World) (K : PySem.W.Frag) (h : Heap) (mg : Str → Option Value), K.In h → h.Ns mainGlobals mg → SaysE fa fn ts ex w K → ∃ fds, Says (T K) w K mg fn fds st df ps gl kd)
    (hb : ∀ (K : PySem.W.Frag) (fd : FuncData), FunD K d.name d.qual d.params d.body d.scope (d.dvs K) (d.kws K) (He.fAd K d.at_) fd → ∀ (s : Shared) (v : Value), BindsTo s fd ⟨[v], []⟩ [(x, v)])
    (res : ∀ ns : List Int, ns.length ≤ m → ∃ wf os, run gl wf df kd k i [.val (.scr (ns.map D.int))] = some (.val (.bl true), os)) :
    PySem.W.WalkO q loose XP (hookE n fa fn ts ex).says l.row.toRowW dr [] (fun f vs => PySem.call f vs) := by
  refine walk_ofG hm hm2 hdf hr (x := x) (CX := CX0) (fun w mg a h Y G hmg => ?_) (fun _ _ _ _ z => z)
  obtain ⟨K, KX, c⟩ := Y
  obtain ⟨fds, sy⟩ := S w K h mg KX G c
  obtain ⟨sp, h1, h2⟩ := law_ok (P := l.prog) (w := w) sy (k := k) hd hx res
  have e : a = He.fAd K d.at_ := by
    have := hmg.symm.trans (glo_at KX G c.t.d hgl)
    rw [hn]
    cases this
    rfl
  subst e
  exact ⟨K, fds i, sp, KX, hb K _ (sy.fun_ i d hd), fun H a ns hl _ hS => h1 H a ns hl hS, fun base _ _ => h2 base⟩
end Mi

namespace Mi
open PySem PySem.Spec L2
open PyProof.Rows hiding St

/-! ## ways to call with keywords -/
def toV : D → V
  | .bl b => .bl b
  | .int i => .int i
  | .str x => .str x
  | _ => .non
theorem toV_rep {T : Cls2} {K : PySem.W.Frag} {d : D} (h : flat d = true) (H : Hp) (av : Av) : Rep T K H av d (toV d) := by
  cases d with
  | non => exact rnon
  | bl b => exact rbl
  | int i => exact rint
  | str x => exact rstr
  | _ => cases h
def consts : List Src → List D
  | [] => []
  | .arg _ :: ss => consts ss
  | .con d :: ss => d :: consts ss
def pickG {α : Type} (zs : List α) : List Src → List α → List α
  | [], _ => []
  | .arg i :: ss, ms => match zs[i]? with
    | some z => z :: pickG zs ss ms
    | none => pickG zs ss ms
  | .con _ :: ss, m :: ms => m :: pickG zs ss ms
  | .con _ :: ss, [] => pickG zs ss []
theorem vals_at : ∀ {vs : List V} {us : List Value}, Vals vs us → ∀ i : Nat, (vs[i]? = none ∧ us[i]? = none) ∨ ∃ v u, vs[i]? = some v ∧ us[i]? = some u ∧ RelV v u
  | [], _, h, i => by cases h; exact .inl ⟨rfl, rfl⟩
  | v :: vs, _, h, i => by
    cases h with
    | cons h1 h2 => cases i with
      | zero => exact .inr ⟨_, _, rfl, rfl, h1⟩
      | succ i => simpa using vals_at h2 i
theorem pickG_vals {zs : List V} {ws : List Value} (r : Vals zs ws) : ∀ {src : List Src} {mz : List V} {mv : List Value}, Vals mz mv → Vals (pickG zs src mz) (pickG ws src mv)
  | [], _, _, _ => .nil
  | .arg i :: ss, mz, mv, h => by
    unfold pickG
    rcases vals_at r i with ⟨e1, e2⟩ | ⟨v, u, e1, e2, e3⟩
    · rw [e1, e2]; exact pickG_vals r h
    · rw [e1, e2]; exact .cons e3 (pickG_vals r h)
  | .con _ :: ss, _, _, .nil => pickG_vals r (src := ss) .nil
  | .con _ :: ss, _, _, .cons h1 h2 => .cons h1 (pickG_vals r h2)
def srcLt (n : Nat) : List Src → Bool
  | [] => true
  | .arg i :: ss => decide (i < n) && srcLt n ss
  | .con d :: ss => flat d && srcLt n ss
theorem pickG_src {T : Cls2} {K : PySem.W.Frag} {zs : List V} : ∀ {src : List Src}, srcLt zs.length src = true → SrcV T K zs src (pickG zs src ((consts src).map toV))
  | [], _ => rfl
  | .arg i :: ss, h => by
    rw [srcLt, Bool.and_eq_true, decide_eq_true_eq] at h
    unfold pickG consts
    rw [List.getElem?_eq_getElem h.1]
    exact ⟨_, _, rfl, List.getElem?_eq_getElem h.1, pickG_src h.2⟩
  | .con d :: ss, h => by
    rw [srcLt, Bool.and_eq_true] at h
    exact ⟨_, _, rfl, fun H av => toV_rep h.1 H av, pickG_src h.2⟩
def srcNd : List Src → List Nat → Bool
  | [], _ => true
  | .arg i :: ss, seen => !seen.contains i && srcNd ss (i :: seen)
  | .con _ :: ss, seen => srcNd ss seen
theorem srcNd_seen : ∀ {src : List Src} {seen : List Nat}, srcNd src seen = true → ∀ (j a : Nat), src[j]? = some (.arg a) → a ∉ seen
  | [], _, _, j, a, e => by simp at e
  | .arg i :: ss, seen, h, j, a, e => by
    rw [srcNd, Bool.and_eq_true] at h
    cases j with
    | zero => simp at e; subst e; simpa using h.1
    | succ j => exact fun z => srcNd_seen h.2 j a (by simpa using e) (List.mem_cons_of_mem _ z)
  | .con _ :: ss, seen, h, j, a, e => by
    cases j with
    | zero => simp at e
    | succ j => exact srcNd_seen (src := ss) h j a (by rw [List.getElem?_cons_succ] at e; exact e)
theorem srcNd_ok : ∀ {src : List Src} {seen : List Nat}, srcNd src seen = true → SrcNd src
  | [], _, _ => fun i j a e => by simp at e
  | .arg b :: ss, seen, h => fun i j a e1 e2 => by
    rw [srcNd, Bool.and_eq_true] at h
    cases i with
    | zero => cases j with
      | zero => rfl
      | succ j =>
        simp at e1
        subst e1
        exact absurd List.mem_cons_self (srcNd_seen h.2 j _ (by simpa using e2))
    | succ i => cases j with
      | zero =>
        simp at e2
        subst e2
        exact absurd List.mem_cons_self (srcNd_seen h.2 i _ (by simpa using e1))
      | succ j => rw [srcNd_ok h.2 i j a (by simpa using e1) (by simpa using e2)]
  | .con _ :: ss, seen, h => fun i j a e1 e2 => by
    cases i with
    | zero => simp at e1
    | succ i => cases j with
      | zero => simp at e2
      | succ j => rw [srcNd_ok (src := ss) (seen := seen) h i j a (by rw [List.getElem?_cons_succ] at e1; exact e1) (by rw [List.getElem?_cons_succ] at e2; exact e2)]
section
variable {T : Cls2} {K : PySem.W.Frag} {x qual : Str} {params : Arguments} {body : List Stmt} {scope : Scope} {kws : List (Str × V)} {f : Addr} {fd : FuncData} {ps ks : List Str} {fi n : Nat} {nm : Str} {src : List Src}
theorem pat_kw (F : FunD K x qual params body scope [] kws f fd) (ms : List (Str × V)) (hk : kws ≠ []) (hms : ∀ q ∈ ms, q ∈ kws) (hl : src.length = ps.length) (hn : srcNd src [] = true) (hi : srcLt (n + ks.length) src = true) (hc : ms.map (·.2) = (consts src).map toV)
    (h : ∀ (D : Addr) (doc pm : Value) (an : Option Addr) (cdv ct : Value) (us mv ws : List Value), us.length = n → mv.length = ms.length → ws.length = ks.length →
      KwChain D ((ms.map (·.1)).zip mv) (bindArgs (PySem.W.fnOf x qual params body scope .none (.ref D) doc pm an cdv ct) ⟨us, ks.zip ws⟩) (ps.zip (pickG (us ++ ws) src mv))) : PatK T K fd ps ⟨fi, nm, n, ks, src⟩ := by
  obtain ⟨mv, b⟩ := F.kbinds0 n ks ms (fun us mv ws => pickG (us ++ ws) src mv) hk hms (fun h1 h2 h3 => pickG_vals (h1.append h3) h2) h
  refine ⟨hl, srcNd_ok hn, _, _, b, fun vs zs h1 h2 => ?_⟩
  show SrcV T K (vs ++ zs) src (pickG (vs ++ zs) src (ms.map (·.2)))
  rw [hc]
  exact pickG_src (by rw [List.length_append, h1, h2]; exact hi)
/-- positional defaults that are all given, keyword-only ones -/
theorem pat_kwD {dvs : List V} (F : FunD K x qual params body scope dvs kws f fd) (ms : List (Str × V)) (hd : dvs ≠ []) (hk : kws ≠ []) (hms : ∀ q ∈ ms, q ∈ kws) (hl : src.length = ps.length) (hn : srcNd src [] = true) (hi : srcLt (n + ks.length) src = true) (hc : ms.map (·.2) = (consts src).map toV)
    (h : ∀ (T D : Addr) (doc pm : Value) (an : Option Addr) (cdv ct : Value) (us its mv ws : List Value), us.length = n → its.length = dvs.length → mv.length = ms.length → ws.length = ks.length →
      ∃ k, bindArgs (PySem.W.fnOf x qual params body scope (.ref T) (.ref D) doc pm an cdv ct) ⟨us, ks.zip ws⟩ = seqItems? (.ref T) >>= k ∧ KwChain D ((ms.map (·.1)).zip mv) (k (some its.toArray)) (ps.zip (pickG (us ++ ws) src mv))) : PatK T K fd ps ⟨fi, nm, n, ks, src⟩ := by
  obtain ⟨its, mv, b⟩ := F.kbinds n ks ms (fun us its mv ws => pickG (us ++ ws) src mv) hd hk hms (fun h1 _ h2 h3 => pickG_vals (h1.append h3) h2) h
  refine ⟨hl, srcNd_ok hn, _, _, b, fun vs zs h1 h2 => ?_⟩
  show SrcV T K (vs ++ zs) src (pickG (vs ++ zs) src (ms.map (·.2)))
  rw [hc]
  exact pickG_src (by rw [List.length_append, h1, h2]; exact hi)
/-- no defaults, keywords -/
theorem pat_kwN (F : FunD K x qual params body scope [] [] f fd) (hl : src.length = ps.length) (hn : srcNd src [] = true) (hi : srcLt (n + ks.length) src = true) (hc : consts src = [])
    (h : ∀ (kV doc pm : Value) (an : Option Addr) (cdv ct : Value) (us ws : List Value), us.length = n → ws.length = ks.length →
      bindArgs (PySem.W.fnOf x qual params body scope .none kV doc pm an cdv ct) ⟨us, ks.zip ws⟩ = pure (ps.zip (pickG (us ++ ws) src []))) : PatK T K fd ps ⟨fi, nm, n, ks, src⟩ := by
  obtain ⟨oc, od, dV, kV, doc, pm, an, cdv, ct, osl, rfl, lk, hcd, hD, hK⟩ := F.ex
  rcases hD with ⟨_, rfl⟩ | ⟨e, _⟩
  · refine ⟨hl, srcNd_ok hn, fun us ws => pickG (us ++ ws) src [], fun vs zs => pickG (vs ++ zs) src [], ⟨fun s us ws X h1 h2 => .of_eq (h kV doc pm an cdv ct us ws h1 h2), fun h1 h2 => pickG_vals (h1.append h2) .nil⟩, fun vs zs h1 h2 => ?_⟩
    have := pickG_src (T := T) (K := K) (zs := vs ++ zs) (src := src) (by rw [List.length_append, h1, h2]; exact hi)
    rw [hc] at this
    exact this
  · exact absurd rfl e
end
/-! ### one of the world's choices, taken apart: a dict of text keys asks it -/
def fixW (w : World) (b : Bool) : World := { w with params := { w.params with followText := fun x => if x = "special-get-raises" then b else w.params.followText x } }
theorem fixW_eq (w : World) : fixW w (w.params.followText "special-get-raises") = w := by
  have e : (fun x => if x = "special-get-raises" then w.params.followText "special-get-raises" else w.params.followText x) = w.params.followText := by
    funext x
    split
    · rename_i h; rw [h]
    · rfl
  unfold fixW
  rw [e]
theorem run_fix {P : World → Prop} (h : ∀ (w : World) (b : Bool), P (fixW w b)) (w : World) : P w := by
  rw [← fixW_eq w]
  exact h _ _
end Mi

namespace Mi
open PySem L2

/-! ## the terms' meaning, by plain rewriting -/
def turnK (C : Ctx) (own : List Nat) (t : Tg) (c : Eo) (e : E) (d : D) (Γ2 : G) : Option (Option D × G) := (put t d Γ2).bind fun Γ3 => (evC C c Γ3).bind fun (b, Γ4) =>
  if b then (ev C e Γ4).bind fun (r, Γ5) => (frz Γ5 r).map fun (d, Γ6) => (some d, wipeG Γ6 own) else some (none, wipeG Γ4 own)
def turnL (C : Ctx) (t : Tg) (b : Ss) (d : D) (Γ2 : G) : Option (Fl × G) := (put t d Γ2).bind fun Γ3 => exs C b Γ3
theorem ev_cpr (C : Ctx) (own : List Nat) (t : Tg) (it : It) (c : Eo) (e : E) (Γ : G) : ev C (.cpr own t it c e) Γ = (evI C it Γ).bind fun (ds, brs, Γ1) => if line < ds.length then none else
  (cprL (turnK C own t c e) ds [] (wipeG Γ1 own)).map fun (acc, Γ7) => (.fr (.lst acc), back (restG Γ1 Γ7 own) brs) := by rw [ev]; rfl
theorem ex_for (C : Ctx) (t : Tg) (it : It) (b : Ss) (Γ : G) : ex C (.for_ t it b) Γ = (evI C it Γ).bind fun (ds, brs, Γ1) => (forL (turnL C t b) ds Γ1).map fun (f, Γ4) => (f, back Γ4 brs) := by rw [ex]; rfl
/-- what is not too great for the machine's own lines -/
def Small (i : Int) : Prop := i.natAbs < 2 ^ 4000
theorem small_of {i : Int} {k : Nat} (hk : k ≤ 4000) (h : i.natAbs < 2 ^ k) : Small i := Nat.lt_of_lt_of_le h (Nat.pow_le_pow_right (by decide) hk)
theorem log_small {i : Int} (h : Small i) : i.natAbs.log2 < 4000 := by
  by_cases h0 : i.natAbs = 0
  · rw [h0]; decide
  · exact (Nat.log2_lt h0).mpr h
theorem mulOk_s {i j : Int} (h : Small i) (g : Small j) : mulOk i j := by
  have := log_small h
  have := log_small g
  unfold mulOk
  omega
theorem powOk_s {i j : Int} (h : Small i) (h0 : 0 ≤ j) (h1 : j ≤ 1000) : powOk i j := by
  have := log_small h
  exact ⟨h0, .inr ⟨h1, by omega⟩⟩
theorem divOk_s {j : Int} (h : Small j) (h0 : 0 < j) : divOk j := .inl ⟨h0, Nat.lt_trans (log_small h) (by decide)⟩
theorem small60 {i : Int} (h : i.natAbs < 10 ^ 60) : Small i := small_of (k := 200) (by decide) (Nat.lt_trans h (by decide))
/-- a pool: its number of draws at most n -/
def Pl (n : Int) (o : OD) : Prop := ∃ a s c : Int, o = .lst [.int a, .int s, .int c] ∧ 0 ≤ s ∧ s < 1000000007 ∧ 0 ≤ c ∧ c ≤ n
theorem Pl.mono {n m : Int} {o : OD} (h : Pl n o) (l : n ≤ m) : Pl m o := by
  obtain ⟨a, s, c, e, h1, h2, h3, h4⟩ := h
  exact ⟨a, s, c, e, h1, h2, h3, by omega⟩
def takeB : Ss := (.cons (.ife (.cmp .Gt (.idx (.var 0) (.con (.int 0))) (.con (.int 0))) (.cons (.asg (.nm 4) (.bin .Mod (.idx (.var 0) (.con (.int 0))) (.var 1)))
    (.cons (.setx (.var 0) (.con (.int 0)) (.bin .FloorDiv (.idx (.var 0) (.con (.int 0))) (.var 1)))
    (.cons (.ret (.var 4))
    .nil))) .nil)
    (.cons (.setx (.var 0) (.con (.int 2)) (.bin .Add (.idx (.var 0) (.con (.int 2))) (.con (.int 1))))
    (.cons (.asg (.nm 2) (.bin .Mod (.bin .Add (.bin .Add (.bin .Mult (.idx (.var 0) (.con (.int 1))) (.con (.int 48271))) (.bin .Mult (.con (.int 104729)) (.idx (.var 0) (.con (.int 2))))) (.con (.int 101))) (.con (.int 2147483629))))
    (.cons (.asg (.nm 2) (.bin .Mod (.bin .Pow (.var 2) (.con (.int 5))) (.con (.int 2147483587))))
    (.cons (.asg (.nm 3) (.bin .Mod (.bin .Pow (.bin .Add (.bin .Add (.var 2) (.bin .Mult (.bin .Mult (.con (.int 69621)) (.idx (.var 0) (.con (.int 2)))) (.idx (.var 0) (.con (.int 2))))) (.bin .Mod (.idx (.var 0) (.con (.int 1))) (.con (.int 65537)))) (.con (.int 3))) (.con (.int 2147483563))))
    (.cons (.ret (.bin .Mod (.bin .FloorDiv (.bin .Mod (.bin .Mult (.var 3) (.con (.int 40692))) (.con (.int 2147483549))) (.con (.int 64))) (.var 1)))
    .nil))))))
def takeT : Df := ⟨[true, false], 3, takeB⟩
theorem fmod_b (i : Int) {m : Int} (h : 0 < m) : 0 ≤ i.fmod m ∧ i.fmod m < m := ⟨Int.fmod_nonneg_of_pos i h, Int.fmod_lt_of_pos i h⟩
local macro_rules | `(tactic| walk_at "run") => `(tactic| simp [runD, parOk, In.en, exs, ex, ev, evT, evA, evF, evO, evC, evI, geti, look, frz, lend, back, toIns, toIn, backs, Out.en, Rt.r, pick, callT, accR, asg, put, puts, putn, endR, outs, OD.d, bop, aop, cop, tru, bi, idxD, atD, ixn, setD, vl, nl, List.replicate])
theorem take_ok (C : Ctx) {n m : Int} {o : OD} (h : Pl n o) (hm : 0 < m) (hms : Small m) (hn : n ≤ 1000000000000) : ∃ r o', runD C takeT [.own o, .val (.int m)] = some (.val (.int r), [.own o', .non]) ∧ 0 ≤ r ∧ r < m ∧ Pl (n + 1) o' := by
  obtain ⟨a, s, c, rfl, h1, h2, h3, h4⟩ := h
  have hm0 : m ≠ 0 := by omega
  have hd := divOk_s hms hm
  by_cases ha : 0 < a
  · refine ⟨a.fmod m, .lst [.int (a.fdiv m), .int s, .int c], ?_, (fmod_b a hm).1, (fmod_b a hm).2, _, _, _, rfl, h1, h2, h3, by omega⟩
    unfold takeT takeB
    simp [runD, parOk, In.en, exs, ex, ev, evT, geti, look, frz, asg, put, endR, outs, OD.d, bop, cop, tru, idxD, atD, ixn, setD, vl, List.replicate, ha, hm0, hd]
  · generalize hx1 : ((s * 48271 + 104729 * (c + 1)) + 101).fmod 2147483629 = x1
    obtain ⟨p1, p2⟩ : 0 ≤ x1 ∧ x1 < 2147483629 := by rw [← hx1]; exact fmod_b _ (by decide)
    generalize hx2 : (x1 ^ 5).fmod 2147483587 = x2
    obtain ⟨p3, p4⟩ : 0 ≤ x2 ∧ x2 < 2147483587 := by rw [← hx2]; exact fmod_b _ (by decide)
    obtain ⟨p5, p6⟩ := fmod_b s (m := 65537) (by decide)
    have q1 : 0 ≤ 69621 * (c + 1) * (c + 1) := Int.mul_nonneg (by omega) (by omega)
    have q2 : 69621 * (c + 1) * (c + 1) ≤ 100000000000000000000 * 100000000000000000000 := Int.mul_le_mul (by omega) (by omega) (by omega) (by decide)
    have q3 : (100000000000000000000 : Int) * 100000000000000000000 = 10000000000000000000000000000000000000000 := by decide
    generalize hy : 69621 * (c + 1) * (c + 1) = y at q1 q2
    generalize hz : s.fmod 65537 = z at p5 p6
    generalize hx3 : ((x2 + y + z) ^ 3).fmod 2147483563 = x3
    obtain ⟨p7, p8⟩ : 0 ≤ x3 ∧ x3 < 2147483563 := by rw [← hx3]; exact fmod_b _ (by decide)
    have b60 : (10 : Nat) ^ 60 = 1000000000000000000000000000000000000000000000000000000000000 := by decide
    have m1 : mulOk s 48271 := mulOk_s (small60 (by omega)) (small60 (by omega))
    have m2 : mulOk 104729 (c + 1) := mulOk_s (small60 (by omega)) (small60 (by omega))
    have m3 : mulOk 69621 (c + 1) := mulOk_s (small60 (by omega)) (small60 (by omega))
    have m4 : mulOk (69621 * (c + 1)) (c + 1) := mulOk_s (small60 (by omega)) (small60 (by omega))
    have m5 : mulOk x3 40692 := mulOk_s (small60 (by omega)) (small60 (by omega))
    have w1 : powOk x1 5 := powOk_s (small60 (by omega)) (by decide) (by decide)
    have w2 : powOk (x2 + y + z) 3 := powOk_s (small60 (by omega)) (by decide) (by decide)
    have d1 : divOk 64 := .inl ⟨by decide, by decide⟩
    refine ⟨(((x3 * 40692).fmod 2147483549).fdiv 64).fmod m, .lst [.int a, .int s, .int (c + 1)], ?_, (fmod_b _ hm).1, (fmod_b _ hm).2, _, _, _, rfl, h1, h2, by omega, by omega⟩
    unfold takeT takeB
    simp [runD, parOk, In.en, exs, ex, ev, evT, geti, look, frz, asg, put, endR, outs, OD.d, bop, cop, tru, idxD, atD, ixn, setD, vl, List.replicate, ha, hm0, m1, m2, m3, m4, m5, w1, w2, d1, hx1, hx2, hx3, hy, hz]
end Mi

namespace Mi
open PySem L2

/-! ## stepping through terms: what comes out, with what is wanted of it -/
def Gv {α : Type} (x : Option α) (P : α → Prop) : Prop := ∃ a, x = some a ∧ P a
section
variable {α β : Type} {P : α → Prop} {Q : β → Prop}
theorem gv_is {x : Option α} {a : α} (h : x = some a) (p : P a) : Gv x P := ⟨a, h, p⟩
theorem gv_some {a : α} (p : P a) : Gv (some a) P := ⟨a, rfl, p⟩
theorem gv_bind {x : Option β} {f : β → Option α} (h : Gv x fun a => Gv (f a) P) : Gv (x.bind f) P := by
  obtain ⟨a, e, b, e2, p⟩ := h
  exact ⟨b, by rw [e]; exact e2, p⟩
theorem gv_map {x : Option β} {f : β → α} (h : Gv x fun a => P (f a)) : Gv (x.map f) P := by
  obtain ⟨a, e, p⟩ := h
  exact ⟨f a, by rw [e]; rfl, p⟩
theorem gv_if {c : Prop} [Decidable c] {x y : Option α} (hc : c) (h : Gv x P) : Gv (if c then x else y) P := by rw [if_pos hc]; exact h
theorem gv_ifn {c : Prop} [Decidable c] {x y : Option α} (hc : ¬ c) (h : Gv y P) : Gv (if c then x else y) P := by rw [if_neg hc]; exact h
theorem gv_mono {x : Option α} {P' : α → Prop} (h : Gv x P') (k : ∀ a, P' a → P a) : Gv x P := let ⟨a, e, p⟩ := h; ⟨a, e, k a p⟩
end
section
variable {C : Ctx} {Γ : G} {P : R × G → Prop} {Pb : Bool × G → Prop} {a b c : E} {op : Operator}
theorem gv_var {i : Nat} {r : R} (h : geti Γ i = some r) (p : P (r, Γ)) : Gv (ev C (.var i) Γ) P := gv_is (by rw [ev, h]; rfl) p
theorem gv_con {d : D} (p : P (.val d, Γ)) : Gv (ev C (.con d) Γ) P := gv_is (by rw [ev]) p
theorem gv_glb {g : Nat} (p : P (.val (C.gl g), Γ)) : Gv (ev C (.glb g) Γ) P := gv_is (by rw [ev]) p
theorem gv_bin (h : Gv (ev C a Γ) fun p => Gv (ev C b p.2) fun q => Gv (look q.2 p.1) fun x => Gv (look q.2 q.1) fun y => Gv (bop op x y) fun r => P (r, q.2)) : Gv (ev C (.bin op a b) Γ) P := by
  rw [ev]
  exact gv_bind (gv_mono h fun p h => gv_bind (gv_mono h fun q h => gv_bind (gv_mono h fun x h => gv_bind (gv_mono h fun y h => gv_map h))))
theorem gv_neg (h : Gv (ev C a Γ) fun p => ∃ i, p.1 = .val (.int i) ∧ P (.val (.int (-i)), p.2)) : Gv (ev C (.neg a) Γ) P := by
  rw [ev]
  refine gv_bind (gv_mono h fun p h => ?_)
  obtain ⟨r, Γ1⟩ := p
  obtain ⟨i, e, h⟩ := h
  simp only at e
  subst e
  exact gv_some h
theorem gv_not (h : Gv (ev C a Γ) fun p => Gv (look p.2 p.1) fun x => Gv (tru x) fun t => P (.val (.bl (!t)), p.2)) : Gv (ev C (.not_ a) Γ) P := by
  rw [ev]
  exact gv_bind (gv_mono h fun p h => gv_bind (gv_mono h fun x h => gv_map h))
theorem gv_cmp {o : CmpOp} (h : Gv (ev C a Γ) fun p => Gv (ev C b p.2) fun q => Gv (look q.2 p.1) fun x => Gv (look q.2 q.1) fun y => Gv (cop o x y) fun r => P (.val (.bl r), q.2)) : Gv (ev C (.cmp o a b) Γ) P := by
  rw [ev]
  exact gv_bind (gv_mono h fun p h => gv_bind (gv_mono h fun q h => gv_bind (gv_mono h fun x h => gv_bind (gv_mono h fun y h => gv_map h))))
theorem gt_cmp {o : CmpOp} (h : Gv (ev C a Γ) fun p => Gv (ev C b p.2) fun q => Gv (look q.2 p.1) fun x => Gv (look q.2 q.1) fun y => Gv (cop o x y) fun r => Pb (r, q.2)) : Gv (evT C (.cmp o a b) Γ) Pb := by
  rw [evT]
  exact gv_bind (gv_mono h fun p h => gv_bind (gv_mono h fun q h => gv_bind (gv_mono h fun x h => gv_bind (gv_mono h fun y h => gv_map h))))
theorem gv_and (h : Gv (ev C a Γ) fun p => ∃ t, p.1 = .val (.bl t) ∧ if t = true then Gv (ev C b p.2) P else P (.val (.bl false), p.2)) : Gv (ev C (.and_ a b) Γ) P := by
  rw [ev]
  refine gv_bind (gv_mono h fun p h => ?_)
  obtain ⟨r, Γ1⟩ := p
  obtain ⟨t, e, h⟩ := h
  simp only at e
  subst e
  cases t with
  | true => exact h
  | false => exact gv_some h
theorem gv_or (h : Gv (ev C a Γ) fun p => ∃ t, p.1 = .val (.bl t) ∧ if t = true then P (.val (.bl true), p.2) else Gv (ev C b p.2) P) : Gv (ev C (.or_ a b) Γ) P := by
  rw [ev]
  refine gv_bind (gv_mono h fun p h => ?_)
  obtain ⟨r, Γ1⟩ := p
  obtain ⟨t, e, h⟩ := h
  simp only at e
  subst e
  cases t with
  | true => exact gv_some h
  | false => exact h
theorem gt_and (h : Gv (evT C a Γ) fun p => if p.1 = true then Gv (evT C b p.2) Pb else Pb (false, p.2)) : Gv (evT C (.and_ a b) Γ) Pb := by
  rw [evT]
  refine gv_bind (gv_mono h fun p h => ?_)
  obtain ⟨t, Γ1⟩ := p
  cases t with
  | true => exact h
  | false => exact gv_some h
theorem gt_or (h : Gv (evT C a Γ) fun p => if p.1 = true then Pb (true, p.2) else Gv (evT C b p.2) Pb) : Gv (evT C (.or_ a b) Γ) Pb := by
  rw [evT]
  refine gv_bind (gv_mono h fun p h => ?_)
  obtain ⟨t, Γ1⟩ := p
  cases t with
  | true => exact gv_some h
  | false => exact h
theorem gt_not (h : Gv (evT C a Γ) fun p => Pb (!p.1, p.2)) : Gv (evT C (.not_ a) Γ) Pb := by
  rw [evT]
  exact gv_map h
theorem gt_var {i : Nat} {r : R} (h : geti Γ i = some r) (p : Gv (look Γ r) fun d => Gv (tru d) fun t => Pb (t, Γ)) : Gv (evT C (.var i) Γ) Pb := by
  rw [evT, h]
  exact gv_bind (gv_some (gv_bind (gv_mono p fun d h => gv_map h)))
theorem gv_ite (h : Gv (evT C c Γ) fun p => if p.1 = true then Gv (ev C a p.2) P else Gv (ev C b p.2) P) : Gv (ev C (.ite c a b) Γ) P := by
  rw [ev]
  refine gv_bind (gv_mono h fun p h => ?_)
  obtain ⟨t, Γ1⟩ := p
  cases t <;> exact h
theorem gv_tup {es : Es} (h : Gv (evF C es Γ) fun p => P (.val (.tup p.1), p.2)) : Gv (ev C (.tup es) Γ) P := by rw [ev]; exact gv_map h
theorem gv_lst {es : Es} (h : Gv (evF C es Γ) fun p => P (.fr (.lst p.1), p.2)) : Gv (ev C (.lst es) Γ) P := by rw [ev]; exact gv_map h
theorem gv_idx (h : Gv (ev C a Γ) fun p => Gv (ev C b p.2) fun q => Gv (look q.2 p.1) fun x => Gv (look q.2 q.1) fun y => Gv (idxD x y) fun d => P (.val d, q.2)) : Gv (ev C (.idx a b) Γ) P := by
  rw [ev]
  exact gv_bind (gv_mono h fun p h => gv_bind (gv_mono h fun q h => gv_bind (gv_mono h fun x h => gv_bind (gv_mono h fun y h => gv_map h))))
theorem gv_slc {lo hi : Eo} (h : Gv (ev C a Γ) fun p => Gv (evO C lo p.2) fun q => Gv (evO C hi q.2) fun s => Gv (look s.2 p.1) fun x => Gv (slcD q.1 s.1 x) fun r => P (r, s.2)) : Gv (ev C (.slc a lo hi) Γ) P := by
  rw [ev]
  exact gv_bind (gv_mono h fun p h => gv_bind (gv_mono h fun q h => gv_bind (gv_mono h fun s h => gv_bind (gv_mono h fun x h => gv_map h))))
theorem gv_slx {lo hi : Eo} (h : Gv (ev C a Γ) fun p => Gv (evO C lo p.2) fun q => Gv (evO C hi q.2) fun s => Gv (ev C b s.2) fun t => ∃ k, t.1 = .val (.int k) ∧ Gv (look t.2 p.1) fun x => Gv (slxD q.1 s.1 k x) fun r => P (r, t.2)) : Gv (ev C (.slx a lo hi b) Γ) P := by
  rw [ev]
  refine gv_bind (gv_mono h fun p h => gv_bind (gv_mono h fun q h => gv_bind (gv_mono h fun s h => gv_bind (gv_mono h fun t h => ?_))))
  obtain ⟨k, e, h⟩ := h
  obtain ⟨r, Γ1⟩ := t
  simp only at e
  subst e
  exact gv_bind (gv_mono h fun x h => gv_map h)
theorem gv_chn {o1 o2 : CmpOp} {c : E} (h : Gv (ev C a Γ) fun p => Gv (ev C b p.2) fun q => Gv (look q.2 p.1) fun x => Gv (look q.2 q.1) fun y => Gv (cop o1 x y) fun t => if t = true then Gv (ev C c q.2) fun s => Gv (look s.2 q.1) fun y' => Gv (look s.2 s.1) fun z => Gv (cop o2 y' z) fun r => P (.val (.bl r), s.2) else P (.val (.bl false), q.2)) : Gv (ev C (.chn o1 o2 a b c) Γ) P := by
  rw [ev]
  refine gv_bind (gv_mono h fun p h => gv_bind (gv_mono h fun q h => gv_bind (gv_mono h fun x h => gv_bind (gv_mono h fun y h => gv_bind (gv_mono h fun t h => ?_)))))
  cases t with
  | true => exact gv_bind (gv_mono h fun s h => gv_bind (gv_mono h fun y' h => gv_bind (gv_mono h fun z h => gv_map h)))
  | false => exact gv_some h
theorem gt_chn {o1 o2 : CmpOp} {c : E} (h : Gv (ev C a Γ) fun p => Gv (ev C b p.2) fun q => Gv (look q.2 p.1) fun x => Gv (look q.2 q.1) fun y => Gv (cop o1 x y) fun t => if t = true then Gv (ev C c q.2) fun s => Gv (look s.2 q.1) fun y' => Gv (look s.2 s.1) fun z => Gv (cop o2 y' z) fun r => Pb (r, s.2) else Pb (false, q.2)) : Gv (evT C (.chn o1 o2 a b c) Γ) Pb := by
  rw [evT]
  refine gv_bind (gv_mono h fun p h => gv_bind (gv_mono h fun q h => gv_bind (gv_mono h fun x h => gv_bind (gv_mono h fun y h => gv_bind (gv_mono h fun t h => ?_)))))
  cases t with
  | true => exact gv_bind (gv_mono h fun s h => gv_bind (gv_mono h fun y' h => gv_bind (gv_mono h fun z h => gv_map h)))
  | false => exact gv_some h
theorem gv_dsp {ks : List Key} {es : Es} (h : Gv (evF C es Γ) fun p => dspOk ks p.1 = true ∧ P (.fr (.dic ks p.1), p.2)) : Gv (ev C (.dsp ks es) Γ) P := by
  rw [ev]
  refine gv_bind (gv_mono h fun p h => ?_)
  obtain ⟨h1, h2⟩ := h
  exact gv_is (if_pos h1) h2
theorem gv_emp (p : P (.fr (.dic [] []), Γ)) : Gv (ev C .emp Γ) P := gv_is (by rw [ev]) p
theorem gv_cal {f : Nat} {acc acc2 : List Bool} {es ks : Es} {src : List Src} (h : Gv (evA C es acc Γ) fun p => Gv (evA C ks acc2 p.2) fun q => Gv (callT C.ft f src (p.1 ++ q.1) q.2) P) : Gv (ev C (.cal f acc es acc2 ks src) Γ) P := by
  rw [ev]
  exact gv_bind (gv_mono h fun p h => gv_bind (gv_mono h fun q h => h))
theorem gv_bi {b : Bi} {es : Es} (h : Gv (evA C es [] Γ) fun p => Gv (p.1.mapM (look p.2)) fun ds => Gv (bi b ds) fun r => P (r, p.2)) : Gv (ev C (.bi b es) Γ) P := by
  rw [ev]
  exact gv_bind (gv_mono h fun p h => gv_bind (gv_mono h fun q h => gv_map h))
theorem gt_bi {b : Bi} {es : Es} (h : Gv (evA C es [] Γ) fun p => Gv (p.1.mapM (look p.2)) fun ds => Gv (bi b ds) fun r => Gv (look p.2 r) fun d => Gv (tru d) fun t => Pb (t, p.2)) : Gv (evT C (.bi b es) Γ) Pb := by
  rw [evT]
  exact gv_bind (gv_mono h fun p h => gv_bind (gv_mono h fun q h => gv_bind (gv_mono h fun r h => gv_bind (gv_mono h fun d h => gv_map h))))
theorem gt_cal {f : Nat} {acc acc2 : List Bool} {es ks : Es} {src : List Src} (h : Gv (evA C es acc Γ) fun p => Gv (evA C ks acc2 p.2) fun q => Gv (callT C.ft f src (p.1 ++ q.1) q.2) fun r => Gv (look r.2 r.1) fun d => Gv (tru d) fun t => Pb (t, r.2)) : Gv (evT C (.cal f acc es acc2 ks src) Γ) Pb := by
  rw [evT]
  exact gv_bind (gv_mono h fun p h => gv_bind (gv_mono h fun q h => gv_bind (gv_mono h fun r h => gv_bind (gv_mono h fun d h => gv_map h))))
theorem gv_isi {ts : List Ty} (h : Gv (ev C a Γ) fun p => Gv (look p.2 p.1) fun x => Gv (ts.mapM (isTy x)) fun bs => P (.val (.bl (bs.any id)), p.2)) : Gv (ev C (.isi a ts) Γ) P := by
  rw [ev]
  exact gv_bind (gv_mono h fun p h => gv_bind (gv_mono h fun q h => gv_map h))
theorem gt_isi {ts : List Ty} (h : Gv (ev C a Γ) fun p => Gv (look p.2 p.1) fun x => Gv (ts.mapM (isTy x)) fun bs => Pb (bs.any id, p.2)) : Gv (evT C (.isi a ts) Γ) Pb := by
  rw [evT]
  exact gv_bind (gv_mono h fun p h => gv_bind (gv_mono h fun q h => gv_map h))
theorem gv_cpr {own : List Nat} {t : Tg} {it : It} {c : Eo} {e : E} (h : Gv (evI C it Γ) fun p => p.1.length ≤ line ∧ Gv (cprL (turnK C own t c e) p.1 [] (wipeG p.2.2 own)) fun q => P (.fr (.lst q.1), back (restG p.2.2 q.2 own) p.2.1)) : Gv (ev C (.cpr own t it c e) Γ) P := by
  rw [ev_cpr]
  refine gv_bind (gv_mono h fun p h => ?_)
  obtain ⟨ds, brs, Γ1⟩ := p
  exact gv_ifn (Nat.not_lt.mpr h.1) (gv_map h.2)
theorem gf_nil {Q : List D × G → Prop} (p : Q ([], Γ)) : Gv (evF C .nil Γ) Q := gv_is (by rw [evF]) p
theorem gf_cons {es : Es} {Q : List D × G → Prop} (h : Gv (ev C a Γ) fun p => Gv (frz p.2 p.1) fun q => Gv (evF C es q.2) fun s => Q (q.1 :: s.1, s.2)) : Gv (evF C (.cons a es) Γ) Q := by
  rw [evF]
  exact gv_bind (gv_mono h fun p h => gv_bind (gv_mono h fun q h => gv_map h))
theorem ga_nil {acc : List Bool} {Q : List R × G → Prop} (p : Q ([], Γ)) : Gv (evA C .nil acc Γ) Q := gv_is (by rw [evA]) p
theorem ga_cons {es : Es} {acc : List Bool} {Q : List R × G → Prop} (h : Gv (ev C a Γ) fun p => Gv (accR acc p.2 p.1) fun q => Gv (evA C es acc.tail q.2) fun s => Q (q.1 :: s.1, s.2)) : Gv (evA C (.cons a es) acc Γ) Q := by
  rw [evA]
  exact gv_bind (gv_mono h fun p h => gv_bind (gv_mono h fun q h => gv_map h))
theorem go_non {Q : Option Int × G → Prop} (p : Q (none, Γ)) : Gv (evO C .non Γ) Q := gv_is (by rw [evO]) p
theorem go_som {Q : Option Int × G → Prop} (h : Gv (ev C a Γ) fun p => ∃ i, p.1 = .val (.int i) ∧ Q (some i, p.2)) : Gv (evO C (.som a) Γ) Q := by
  rw [evO]
  refine gv_bind (gv_mono h fun p h => ?_)
  obtain ⟨r, Γ1⟩ := p
  obtain ⟨i, e, h⟩ := h
  simp only at e
  subst e
  exact gv_some h
theorem gc_non (p : Pb (true, Γ)) : Gv (evC C .non Γ) Pb := gv_is (by rw [evC]) p
theorem gc_som (h : Gv (evT C a Γ) Pb) : Gv (evC C (.som a) Γ) Pb := by rw [evC]; exact h
theorem gi_seq {Q : List D × List Nat × G → Prop} (h : Gv (ev C a Γ) fun p => Gv (look p.2 p.1) fun x => Gv (walked x) fun ds => Q (ds, (lend p.2 p.1).2.toList, (lend p.2 p.1).1)) : Gv (evI C (.seq a) Γ) Q := by
  rw [evI]
  exact gv_bind (gv_mono h fun p h => gv_bind (gv_mono h fun q h => gv_map h))
theorem gi_rng1 {Q : List D × List Nat × G → Prop} (h : Gv (ev C a Γ) fun p => ∃ j, p.1 = .val (.int j) ∧ -4611686018427387904 ≤ j ∧ j ≤ 16777216 ∧ Q (rangeL 0 j.toNat 1, [], p.2)) : Gv (evI C (.rng1 a) Γ) Q := by
  rw [evI]
  refine gv_bind (gv_mono h fun p h => ?_)
  obtain ⟨r, Γ1⟩ := p
  obtain ⟨i, e, h1, h2, h⟩ := h
  simp only at e
  subst e
  exact gv_if ⟨⟨h1, by omega⟩, h2⟩ (gv_some h)
theorem gi_zip {Q : List D × List Nat × G → Prop} (h : Gv (ev C a Γ) fun p => Gv (ev C b p.2) fun q => Gv (look q.2 p.1) fun x => Gv (look q.2 q.1) fun y => Gv (items x) fun xs => Gv (items y) fun ys => Q (zipD xs ys, (lend q.2 p.1).2.toList ++ (lend (lend q.2 p.1).1 q.1).2.toList, (lend (lend q.2 p.1).1 q.1).1)) : Gv (evI C (.zip a b) Γ) Q := by
  rw [evI]
  exact gv_bind (gv_mono h fun p h => gv_bind (gv_mono h fun q h => gv_bind (gv_mono h fun x h => gv_bind (gv_mono h fun y h => gv_bind (gv_mono h fun xs h => gv_map h)))))
/-! ### statements -/
variable {S0 : S} {ss s1 s2 : Ss} {Ps : Fl × G → Prop}
theorem gs_nil (p : Ps (.nx, Γ)) : Gv (exs C .nil Γ) Ps := gv_is (by rw [exs]) p
theorem gs_cons (h : Gv (ex C S0 Γ) fun p => match p.1 with | .nx => Gv (exs C ss p.2) Ps | f => Ps (f, p.2)) : Gv (exs C (.cons S0 ss) Γ) Ps := by
  rw [exs]
  refine gv_bind (gv_mono h fun p h => ?_)
  obtain ⟨f, Γ1⟩ := p
  cases f with
  | nx => exact h
  | bk => exact gv_some h
  | ct => exact gv_some h
  | rt r => exact gv_some h
theorem gs_asg {t : Tg} (h : Gv (ev C a Γ) fun p => Gv (asg t p.1 p.2) fun Γ2 => Ps (.nx, Γ2)) : Gv (ex C (.asg t a) Γ) Ps := by
  rw [ex]
  exact gv_bind (gv_mono h fun p h => gv_map h)
theorem gs_ret (h : Gv (ev C a Γ) fun p => Ps (.rt p.1, p.2)) : Gv (ex C (.ret a) Γ) Ps := by rw [ex]; exact gv_map h
theorem gs_exp (h : Gv (ev C a Γ) fun p => Ps (.nx, p.2)) : Gv (ex C (.exp a) Γ) Ps := by rw [ex]; exact gv_map h
theorem gs_ife (h : Gv (evT C c Γ) fun p => if p.1 = true then Gv (exs C s1 p.2) Ps else Gv (exs C s2 p.2) Ps) : Gv (ex C (.ife c s1 s2) Γ) Ps := by
  rw [ex]
  refine gv_bind (gv_mono h fun p h => ?_)
  obtain ⟨t, Γ1⟩ := p
  cases t <;> exact h
theorem gs_for {t : Tg} {it : It} (h : Gv (evI C it Γ) fun p => Gv (forL (turnL C t ss) p.1 p.2.2) fun q => Ps (q.1, back q.2 p.2.1)) : Gv (ex C (.for_ t it ss) Γ) Ps := by
  rw [ex_for]
  exact gv_bind (gv_mono h fun p h => gv_map h)
theorem gs_setx {b i : E} (h : Gv (ev C a Γ) fun p => Gv (frz p.2 p.1) fun q => Gv (ev C b q.2) fun rb => Gv (ev C i rb.2) fun ri => Gv (look ri.2 ri.1) fun k => ∃ j o o', rb.1 = .loc j ∧ ri.2[j]? = some (.own o) ∧ setD k q.1 o = some o' ∧ Ps (.nx, ri.2.set j (.own o'))) : Gv (ex C (.setx b i a) Γ) Ps := by
  rw [ex]
  refine gv_bind (gv_mono h fun p h => gv_bind (gv_mono h fun q h => gv_bind (gv_mono h fun rb h => gv_bind (gv_mono h fun ri h => gv_bind (gv_mono h fun k h => ?_)))))
  obtain ⟨j, o, o', e1, e2, e3, h⟩ := h
  obtain ⟨r1, Γ1⟩ := rb
  simp only at e1
  subst e1
  simp only [e2, e3]
  exact gv_some (by assumption)
/-- a def's run -/
theorem gd_run {f : Df} {is : List In} {Q : Rt × List Out → Prop} (hp : parOk f.par is = true) (h : Gv (exs C f.body (is.map In.en ++ List.replicate f.loc .un)) fun p => match p.1 with
    | .nx => Q (.val .non, outs is p.2)
    | .rt r => Gv (endR f.par.length p.2 r) fun q => Q (q.1, outs is q.2)
    | _ => False) : Gv (runD C f is) Q := by
  unfold runD
  rw [if_pos hp]
  refine gv_bind (gv_mono h fun p h => ?_)
  obtain ⟨fl, Γ1⟩ := p
  cases fl with
  | nx => exact gv_some h
  | bk => exact h.elim
  | ct => exact h.elim
  | rt r => exact gv_map h
/-- a loop with what stays -/
theorem forL_gv {turn : D → G → Option (Fl × G)} {ds : List D} {Γ : G} {Ps : Fl × G → Prop} (I : Nat → G → Prop) (h0 : I 0 Γ)
    (hs : ∀ i d Γ, ds[i]? = some d → I i Γ → Gv (turn d Γ) fun p => match p.1 with
      | .nx => I (i + 1) p.2
      | .ct => I (i + 1) p.2
      | .bk => Ps (.nx, p.2)
      | .rt r => Ps (.rt r, p.2)) (he : ∀ Γ, I ds.length Γ → Ps (.nx, Γ)) : Gv (forL turn ds Γ) Ps := by
  have key : ∀ (n i : Nat) (Γ : G), n + i = ds.length → I i Γ → Gv (forL turn (ds.drop i) Γ) Ps := by
    intro n
    induction n with
    | zero =>
      intro i Γ hi hI
      have e : i = ds.length := by omega
      subst e
      rw [List.drop_length, forL]
      exact gv_some (he Γ hI)
    | succ n ih =>
      intro i Γ hi hI
      have hl : i < ds.length := by omega
      rw [List.drop_eq_getElem_cons hl, forL]
      refine gv_bind (gv_mono (hs i _ Γ (List.getElem?_eq_getElem hl) hI) fun p h => ?_)
      obtain ⟨f, Γ1⟩ := p
      cases f with
      | nx => exact ih (i + 1) Γ1 (by omega) h
      | ct => exact ih (i + 1) Γ1 (by omega) h
      | bk => exact gv_some h
      | rt r => exact gv_some h
  exact key ds.length 0 Γ (by simp) h0
theorem cprL_gv {step : D → G → Option (Option D × G)} {ds : List D} {Γ : G} {Q : List D × G → Prop} (I : Nat → List D → G → Prop) (h0 : I 0 [] Γ)
    (hs : ∀ i d acc Γ, ds[i]? = some d → I i acc Γ → Gv (step d Γ) fun p => I (i + 1) (match p.1 with | some y => acc ++ [y] | none => acc) p.2) (he : ∀ acc Γ, I ds.length acc Γ → Q (acc, Γ)) : Gv (cprL step ds [] Γ) Q := by
  have key : ∀ (n i : Nat) (acc : List D) (Γ : G), n + i = ds.length → I i acc Γ → Gv (cprL step (ds.drop i) acc Γ) Q := by
    intro n
    induction n with
    | zero =>
      intro i acc Γ hi hI
      have e : i = ds.length := by omega
      subst e
      rw [List.drop_length, cprL]
      exact gv_some (he acc Γ hI)
    | succ n ih =>
      intro i acc Γ hi hI
      have hl : i < ds.length := by omega
      rw [List.drop_eq_getElem_cons hl, cprL]
      refine gv_bind (gv_mono (hs i _ acc Γ (List.getElem?_eq_getElem hl) hI) fun p h => ?_)
      obtain ⟨y, Γ1⟩ := p
      exact ih (i + 1) _ Γ1 (by omega) h
  exact key ds.length 0 [] Γ (by simp) h0
theorem turnL_gv {t : Tg} {d : D} {Ps : Fl × G → Prop} (h : Gv (put t d Γ) fun Γ3 => Gv (exs C ss Γ3) Ps) : Gv (turnL C t ss d Γ) Ps := gv_bind h
theorem turnK_gv {own : List Nat} {t : Tg} {cc : Eo} {e : E} {d : D} {Q : Option D × G → Prop} (h : Gv (put t d Γ) fun Γ3 => Gv (evC C cc Γ3) fun p => if p.1 = true then Gv (ev C e p.2) fun q => Gv (frz q.2 q.1) fun s => Q (some s.1, wipeG s.2 own) else Q (none, wipeG p.2 own)) : Gv (turnK C own t cc e d Γ) Q := by
  refine gv_bind (gv_mono h fun Γ3 h => gv_bind (gv_mono h fun p h => ?_))
  obtain ⟨t, Γ4⟩ := p
  cases t with
  | true => exact gv_bind (gv_mono h fun q h => gv_map h)
  | false => exact gv_some h
/-- a call, by what the def is known to do -/
theorem callT_gv {f : Nat} {src : List Src} {rs rs' : List R} {Γ Γ2 : G} {is : List In} (e1 : pick rs src = some rs') (e2 : toIns Γ rs' = some (is, Γ2)) (h : Gv (C.ft f is) fun q => P (q.1.r, backs rs' is q.2 Γ2)) : Gv (callT C.ft f src rs Γ) P := by
  unfold callT
  rw [e1]
  refine gv_bind (gv_some (gv_bind ?_))
  rw [e2]
  exact gv_some (gv_bind (gv_mono h fun q h => gv_some h))
end
end Mi

namespace Mi
open PySem L2
section
variable {P : R → Prop} {Pd : D → Prop} {Pb : Bool → Prop} {i j : Int} {xs ys : List D}
theorem gl_add (p : P (.val (.int (i + j)))) : Gv (bop .Add (.int i) (.int j)) P := gv_is rfl p
theorem gl_sub (p : P (.val (.int (i - j)))) : Gv (bop .Sub (.int i) (.int j)) P := gv_is rfl p
theorem gl_mul (h : mulOk i j) (p : P (.val (.int (i * j)))) : Gv (bop .Mult (.int i) (.int j)) P := gv_is (if_pos h) p
theorem gl_pow (h : powOk i j) (p : P (.val (.int (i ^ j.toNat)))) : Gv (bop .Pow (.int i) (.int j)) P := gv_is (if_pos h) p
theorem gl_mod (h : j ≠ 0) (p : P (.val (.int (i.fmod j)))) : Gv (bop .Mod (.int i) (.int j)) P := gv_is (if_pos h) p
theorem gl_div (h : divOk j) (p : P (.val (.int (i.fdiv j)))) : Gv (bop .FloorDiv (.int i) (.int j)) P := gv_is (if_pos h) p
theorem gl_cat (h : xs.length + ys.length ≤ line) (p : P (.fr (.lst (xs ++ ys)))) : Gv (bop .Add (.lst xs) (.lst ys)) P := gv_is (if_pos h) p
theorem gl_catT (h : xs.length + ys.length ≤ line) (p : P (.val (.tup (xs ++ ys)))) : Gv (bop .Add (.tup xs) (.tup ys)) P := gv_is (if_pos h) p
theorem gl_lt (p : Pb (decide (i < j))) : Gv (cop .Lt (.int i) (.int j)) Pb := gv_is rfl p
theorem gl_le (p : Pb (decide (i ≤ j))) : Gv (cop .LtE (.int i) (.int j)) Pb := gv_is rfl p
theorem gl_gt (p : Pb (decide (j < i))) : Gv (cop .Gt (.int i) (.int j)) Pb := gv_is rfl p
theorem gl_ge (p : Pb (decide (j ≤ i))) : Gv (cop .GtE (.int i) (.int j)) Pb := gv_is rfl p
theorem gl_eq (p : Pb (i == j)) : Gv (cop .Eq (.int i) (.int j)) Pb := gv_is rfl p
theorem gl_ne (p : Pb (!(i == j))) : Gv (cop .NotEq (.int i) (.int j)) Pb := gv_is rfl p
theorem gl_eqs {x y : Str} (p : Pb (x == y)) : Gv (cop .Eq (.str x) (.str y)) Pb := gv_is rfl p
theorem gl_nes {x y : Str} (p : Pb (!(x == y))) : Gv (cop .NotEq (.str x) (.str y)) Pb := gv_is rfl p
theorem gl_eqb {x y : Bool} (p : Pb (x == y)) : Gv (cop .Eq (.bl x) (.bl y)) Pb := gv_is rfl p
theorem gl_neb {x y : Bool} (p : Pb (!(x == y))) : Gv (cop .NotEq (.bl x) (.bl y)) Pb := gv_is rfl p
theorem gl_look {Γ : G} {r : R} {d : D} (h : look Γ r = some d) (p : Pd d) : Gv (look Γ r) Pd := gv_is h p
theorem gl_rest {t : Tg} {Γ Γ' : G} {r : R} {Q : G → Prop} (h : asg t r Γ = some Γ') (p : Q Γ') : Gv (asg t r Γ) Q := gv_is h p
theorem gl_put {t : Tg} {Γ Γ' : G} {d : D} {Q : G → Prop} (h : put t d Γ = some Γ') (p : Q Γ') : Gv (put t d Γ) Q := gv_is h p
theorem gl_acc {acc : List Bool} {Γ : G} {r : R} {x : R × G} {Q : R × G → Prop} (h : accR acc Γ r = some x) (p : Q x) : Gv (accR acc Γ r) Q := gv_is h p
theorem gl_map {rs : List R} {Γ : G} {ds : List D} {Q : List D → Prop} (h : rs.mapM (look Γ) = some ds) (p : Q ds) : Gv (rs.mapM (look Γ)) Q := gv_is h p
theorem gl_tru {d : D} {b : Bool} {Q : Bool → Prop} (h : tru d = some b) (p : Q b) : Gv (tru d) Q := gv_is h p
theorem gl_bi {b : Bi} {ds : List D} {r : R} {Q : R → Prop} (h : bi b ds = some r) (p : Q r) : Gv (bi b ds) Q := gv_is h p
theorem gl_frz {Γ Γ' : G} {r : R} {d : D} {Q : D × G → Prop} (h : frz Γ r = some (d, Γ')) (p : Q (d, Γ')) : Gv (frz Γ r) Q := gv_is h p
theorem gl_idxl {d : D} (h : atD xs i = some d) (p : Pd d) : Gv (idxD (.lst xs) (.int i)) Pd := gv_is h p
theorem gl_idxt {d : D} (h : atD xs i = some d) (p : Pd d) : Gv (idxD (.tup xs) (.int i)) Pd := gv_is h p
theorem at_nat {n : Nat} {d : D} (h : xs[n]? = some d) : atD xs (n : Int) = some d := by
  have hl := (List.getElem?_eq_some_iff.mp h).1
  unfold atD ixn
  rw [if_pos (Int.natCast_nonneg n), if_pos (by simpa using hl)]
  simpa using h
theorem at_int {k : Int} {d : D} (h0 : 0 ≤ k) (h : xs[k.toNat]? = some d) : atD xs k = some d := by
  obtain ⟨n, rfl⟩ := Int.eq_ofNat_of_zero_le h0
  exact at_nat (by simpa using h)
end
/-! ## the draws that the laws share -/
def poolB : Ss := (.cons (.asg (.nm 2) (.con (.int 0)))
    (.cons (.ife (.cmp .Lt (.var 1) (.bi .len (.cons (.var 0) .nil))) (.cons (.asg (.nm 2) (.idx (.var 0) (.var 1)))
    .nil) .nil)
    (.cons (.ret (.lst (.cons (.bi .max2 (.cons (.con (.int 0)) (.cons (.bin .Sub (.var 2) (.bin .Pow (.con (.int 10)) (.con (.int 18)))) .nil))) (.cons (.bin .Mod (.var 2) (.con (.int 1000000007))) (.cons (.bin .Add (.bin .Mult (.con (.int 7919)) (.var 1)) (.con (.int 1))) .nil)))))
    .nil)))
def poolT : Df := ⟨[false, false], 1, poolB⟩
local macro_rules | `(tactic| walk_at "s") => `(tactic| (
  first
  | (with_reducible refine gs_cons ?_)
  | (with_reducible refine gs_asg ?_)
  | (with_reducible refine gs_ret ?_)
  | (with_reducible refine gs_exp ?_)
  | (with_reducible refine gs_setx ?_)
  | (with_reducible refine gs_nil ?_)
  | (with_reducible refine gv_con ?_)
  | ((with_reducible apply gv_var); exact rfl)
  | (with_reducible refine gv_bin ?_)
  | (with_reducible refine gv_cmp ?_)
  | (with_reducible refine gt_cmp ?_)
  | (with_reducible refine gv_idx ?_)
  | (with_reducible refine gv_bi ?_)
  | (with_reducible refine gt_bi ?_)
  | (with_reducible refine gv_cal ?_)
  | (with_reducible refine gv_tup ?_)
  | (with_reducible refine gv_lst ?_)
  | (with_reducible refine gv_slc ?_)
  | (with_reducible refine gv_not ?_)
  | (with_reducible refine gt_not ?_)
  | (with_reducible refine gf_nil ?_)
  | (with_reducible refine gf_cons ?_)
  | (with_reducible refine ga_nil ?_)
  | (with_reducible refine ga_cons ?_)
  | (with_reducible refine go_non ?_)
  | ((with_reducible apply gl_look); exact rfl)
  | ((with_reducible apply gl_frz); exact rfl)
  | (with_reducible refine gl_add ?_)
  | (with_reducible refine gl_sub ?_)
  | (with_reducible refine gl_lt ?_)
  | (with_reducible refine gl_le ?_)
  | (with_reducible refine gl_gt ?_)
  | (with_reducible refine gl_ge ?_)
  | (with_reducible refine gl_eq ?_)
  | (with_reducible refine gl_ne ?_)
  | (with_reducible refine gs_ife ?_)
  | (with_reducible refine gv_ite ?_)
  | ((with_reducible apply gl_rest); exact rfl)
  | ((with_reducible apply gl_put); exact rfl)
  | ((with_reducible apply gl_acc); exact rfl)
  | ((with_reducible apply gl_map); exact rfl)
  | ((with_reducible apply gl_tru); exact rfl)
  try dsimp only [List.set_cons_succ, List.set_cons_zero]))
theorem pool_ok (C : Ctx) {ns : List Int} {k : Nat} (hk : k < ns.length) (hk2 : k ≤ 1000) : Gv (runD C poolT [.val (.lst (ns.map D.int)), .val (.int k)]) fun q => ∃ o, q.1 = .fr o ∧ Pl (7919 * k + 1) o := by
  refine gd_run rfl ?_
  show Gv (exs C poolB [.val (.lst (ns.map D.int)), .val (.int k), .un]) _
  unfold poolB
  repeat walk_at "s"
  (with_reducible apply gl_bi); exact rfl
  repeat walk_at "s"
  rw [if_pos (by simp; omega)]
  repeat walk_at "s"
  refine gl_idxl (at_nat (d := .int ns[k]) (by simp [hk])) ?_
  repeat walk_at "s"
  refine gl_pow ⟨by decide, .inl ⟨by decide, by decide⟩⟩ ?_
  repeat walk_at "s"
  (with_reducible apply gl_bi); exact rfl
  repeat walk_at "s"
  refine gl_mod (by decide) ?_
  repeat walk_at "s"
  refine gl_mul (mulOk_s (small60 (by decide)) (small60 (by omega))) ?_
  repeat walk_at "s"
  refine gv_is rfl ⟨_, rfl, _, _, _, rfl, (fmod_b _ (by decide)).1, (fmod_b _ (by decide)).2, by omega, by omega⟩
theorem take_gv (C : Ctx) {n m : Int} {o : OD} (h : Pl n o) (hm : 0 < m) (hms : Small m) (hn : n ≤ 1000000000000) : Gv (runD C takeT [.own o, .val (.int m)]) fun q => ∃ r o', q = (.val (.int r), [.own o', .non]) ∧ 0 ≤ r ∧ r < m ∧ Pl (n + 1) o' := by
  obtain ⟨r, o', e, h1, h2, h3⟩ := take_ok C h hm hms hn
  exact gv_is e ⟨r, o', rfl, h1, h2, h3⟩
theorem ints_map : ∀ ns : List Int, intsD (ns.map D.int) = some ns
  | [] => rfl
  | n :: ns => by rw [List.map_cons, intsD, ints_map ns]; rfl
theorem step_ints (ns : List Int) (lo hi : Option Int) (k : Int) : ∃ ms : List Int, stepD (ns.map D.int) lo hi k = ms.map D.int := by
  unfold stepD
  generalize (sliceRange (sliceBounds lo hi (some k) (ns.map D.int).length).1 (sliceBounds lo hi (some k) (ns.map D.int).length).2.1 (sliceBounds lo hi (some k) (ns.map D.int).length).2.2) = l
  refine ⟨l.filterMap (ns[·]?), ?_⟩
  induction l with
  | nil => rfl
  | cons i l ih =>
    rw [List.filterMap_cons, List.filterMap_cons, List.getElem?_map]
    cases ns[i]? with
    | none => exact ih
    | some n => rw [Option.map_some, ih]; rfl
def foldB : Ss := (.cons (.ret (.cpr [2] (.nm 2) (.rng1 (.bi .max2 (.cons (.con (.int 1)) (.cons (.bi .min2 (.cons (.var 1) (.cons (.bi .len (.cons (.var 0) .nil)) .nil))) .nil)))) .non (.bi .sum (.cons (.slx (.var 0) (.som (.var 2)) (.som (.con (.int 63))) (.var 1)) .nil))))
    .nil)
def foldT : Df := ⟨[false, false], 1, foldB⟩
theorem fold_ok (C : Ctx) {ns : List Int} {t : Int} (ht : 0 < t) (ht2 : t ≤ 1000) : Gv (runD C foldT [.val (.scr (ns.map D.int)), .val (.int t)]) fun q => ∃ cs : List Int, q.1 = .fr (.lst (cs.map D.int)) ∧ cs.length ≤ t.toNat := by
  refine gd_run rfl ?_
  show Gv (exs C foldB [.val (.scr (ns.map D.int)), .val (.int t), .un]) _
  unfold foldB
  repeat walk_at "s"
  refine gv_cpr (gi_rng1 ?_)
  repeat walk_at "s"
  (with_reducible apply gl_bi); exact rfl
  repeat walk_at "s"
  (with_reducible apply gl_bi); exact rfl
  repeat walk_at "s"
  (with_reducible apply gl_bi); exact rfl
  try dsimp only
  generalize hj : (if (if ((ns.map D.int).length : Int) < t then ((ns.map D.int).length : Int) else t) > 1 then (if ((ns.map D.int).length : Int) < t then ((ns.map D.int).length : Int) else t) else 1) = j
  have h1 : 1 ≤ j ∧ j ≤ t := by
    rw [← hj]
    split <;> split <;> omega
  have hl : (rangeL 0 j.toNat 1).length = j.toNat := by unfold rangeL; simp
  refine ⟨j, rfl, by omega, by omega, by rw [hl]; show j.toNat ≤ 16777216; omega, ?_⟩
  refine cprL_gv (fun i acc Γ => Γ = [.val (.scr (ns.map D.int)), .val (.int t), .un] ∧ ∃ cs : List Int, acc = cs.map D.int ∧ cs.length = i) ⟨rfl, [], rfl, rfl⟩ ?_ ?_
  · rintro i d acc Γ hd ⟨rfl, cs, rfl, hcl⟩
    obtain ⟨z, rfl⟩ : ∃ z : Int, d = .int z := by
      unfold rangeL at hd
      rw [List.getElem?_map] at hd
      obtain ⟨q, _, e⟩ := Option.map_eq_some_iff.mp hd
      exact ⟨_, e.symm⟩
    refine turnK_gv ?_
    repeat walk_at "s"
    refine gc_non ?_
    dsimp only
    rw [if_pos rfl]
    repeat walk_at "s"
    refine gv_slx ?_
    repeat walk_at "s"
    refine go_som ?_
    repeat walk_at "s"
    refine ⟨z, rfl, ?_⟩
    refine go_som ?_
    repeat walk_at "s"
    refine ⟨63, rfl, ?_⟩
    repeat walk_at "s"
    refine ⟨t, rfl, ?_⟩
    repeat walk_at "s"
    obtain ⟨ms, hms⟩ := step_ints ns (some z) (some 63) t
    refine gv_is (a := .fr (.lst (ms.map D.int))) (by show (if t ≠ 0 then nl (stepD (ns.map D.int) (some z) (some 63) t) else none) = _; rw [if_pos (show t ≠ 0 by omega), hms]; rfl) ?_
    repeat walk_at "s"
    refine gl_bi (r := .val (.int ms.sum)) (by show (intsD (ms.map D.int)).bind _ = _; rw [ints_map]; rfl) ?_
    repeat walk_at "s"
    exact ⟨rfl, cs ++ [ms.sum], by simp, by simp [hcl]⟩
  · rintro acc Γ ⟨rfl, cs, rfl, hcl⟩
    dsimp only
    refine gv_is rfl ⟨cs, rfl, ?_⟩
    rw [hcl, hl]
    omega
/-- what the draws promise -/
def TakeS (f : Sem1) : Prop := ∀ (n m : Int) (o : OD), Pl n o → 0 < m → Small m → n ≤ 1000000000000 → Gv (f [.own o, .val (.int m)]) fun q => ∃ r o', q = (.val (.int r), [.own o', .non]) ∧ 0 ≤ r ∧ r < m ∧ Pl (n + 1) o'
theorem takeS (C : Ctx) : TakeS (runD C takeT) := fun n m o h hm hs hn => take_gv C h hm hs hn
/-- a call of a def that takes the pool and whole data -/
theorem call_pool {C : Ctx} {Γ : G} {f i : Nat} {rs : List R} {is : List In} {src : List Src} {o : OD} {P : R × G → Prop} (e0 : pick rs src = some rs) (e1 : toIns Γ rs = some (is, Γ.set i .un)) (h : Gv (C.ft f is) fun q => P (q.1.r, backs rs is q.2 (Γ.set i .un))) : Gv (callT C.ft f src rs Γ) P :=
  callT_gv e0 e1 h
def greatB (tk : Nat) : Ss := (.cons (.ife (.cmp .Lt (.var 1) (.bin .Pow (.con (.int 10)) (.con (.int 7)))) (.cons (.ret (.cal tk [true, false] (.cons (.var 0) (.cons (.var 1) .nil)) [] .nil [.arg 0, .arg 1]))
    .nil) .nil)
    (.cons (.asg (.nm 2) (.con (.int 0)))
    (.cons (.for_ (.nm 3) (.rng1 (.con (.int 5))) (.cons (.asg (.nm 2) (.bin .Add (.bin .Mult (.var 2) (.bin .Pow (.con (.int 10)) (.con (.int 7)))) (.cal tk [true, false] (.cons (.var 0) (.cons (.bin .Pow (.con (.int 10)) (.con (.int 7))) .nil)) [] .nil [.arg 0, .arg 1])))
    .nil))
    (.cons (.ret (.bin .Mod (.var 2) (.var 1)))
    .nil))))
def greatT (tk : Nat) : Df := ⟨[true, false], 2, greatB tk⟩
def GreatS (f : Sem1) : Prop := ∀ (n m : Int) (o : OD), Pl n o → 0 < m → Small m → n ≤ 900000000000 → Gv (f [.own o, .val (.int m)]) fun q => ∃ r o', q = (.val (.int r), [.own o', .non]) ∧ 0 ≤ r ∧ r < m ∧ Pl (n + 5) o'
theorem p107 : powOk 10 7 := ⟨by decide, .inl ⟨by decide, by decide⟩⟩
theorem greatS {C : Ctx} {tk : Nat} (hT : TakeS (C.ft tk)) : GreatS (runD C (greatT tk)) := by
  intro n m o h hm hs hn
  refine gd_run rfl ?_
  show Gv (exs C (greatB tk) [.own o, .val (.int m), .un, .un]) _
  unfold greatB
  repeat walk_at "s"
  refine gl_pow p107 ?_
  repeat walk_at "s"
  by_cases hlt : m < 10 ^ (7 : Int).toNat
  · rw [if_pos (decide_eq_true hlt)]
    repeat walk_at "s"
    refine callT_gv rfl rfl (gv_mono (hT n m o h hm hs (by omega)) ?_)
    rintro _ ⟨r, o', rfl, h1, h2, h3⟩
    exact gv_is rfl ⟨r, o', rfl, h1, h2, h3.mono (by omega)⟩
  · rw [if_neg (by simpa using hlt)]
    repeat walk_at "s"
    refine gs_for (gi_rng1 ?_)
    repeat walk_at "s"
    refine ⟨5, rfl, by decide, by decide, ?_⟩
    refine forL_gv (fun i Γ => ∃ o' g x, Γ = [.own o', .val (.int m), .val (.int g), x] ∧ 0 ≤ g ∧ g < 10 ^ (7 * i) ∧ Pl (n + i) o') ⟨o, 0, .un, rfl, by decide, by decide, by simpa using h⟩ ?_ ?_
    · rintro i d Γ hd ⟨o', g, x, rfl, g0, g1, hp⟩
      have hi : i < 5 := (List.getElem?_eq_some_iff.mp hd).1
      have hgb : g < 10 ^ 40 := Int.lt_of_lt_of_le g1 (by
        rcases (show i = 0 ∨ i = 1 ∨ i = 2 ∨ i = 3 ∨ i = 4 by omega) with rfl | rfl | rfl | rfl | rfl <;> decide)
      refine turnL_gv ?_
      repeat walk_at "s"
      refine gl_pow p107 ?_
      repeat walk_at "s"
      refine gl_mul (mulOk_s (small60 (by omega)) (small60 (by decide))) ?_
      repeat walk_at "s"
      refine gl_pow p107 ?_
      repeat walk_at "s"
      refine callT_gv rfl rfl (gv_mono (hT (n + i) _ o' hp (by decide) (small60 (by decide)) (by omega)) ?_)
      rintro _ ⟨r, o2, rfl, h1, h2, h3⟩
      repeat walk_at "s"
      refine ⟨o2, _, _, rfl, ?_, ?_, ?_⟩
      · have : 0 ≤ g * 10 ^ (7 : Int).toNat := Int.mul_nonneg g0 (by decide)
        omega
      · have e : (10 : Int) ^ (7 * (i + 1)) = 10 ^ (7 * i) * 10 ^ (7 : Int).toNat := by rw [Nat.mul_add, Int.pow_add]; rfl
        rw [e]
        have h2 : r < 10 ^ (7 : Int).toNat := h2
        have h6 : (10 : Int) ^ (7 : Int).toNat = 10000000 := by decide
        rw [h6] at h2 ⊢
        omega
      · have : n + (i : Int) + 1 = n + ((i + 1 : Nat) : Int) := by omega
        rw [← this]; exact h3
    · rintro Γ ⟨o', g, x, rfl, g0, g1, hp⟩
      repeat walk_at "s"
      refine gl_mod (by omega) ?_
      repeat walk_at "s"
      exact gv_is rfl ⟨_, o', rfl, (fmod_b g hm).1, (fmod_b g hm).2, hp⟩
end Mi

namespace Mi
open PySem L2

/-! ## more of stepping: rules for loops and the like, and what the laws' systems are -/
theorem gv_mmt {C : Mi.Ctx} {Γ : G} {a : E} {es : Es} {m : Mm} {P : R × G → Prop} (h : Gv (ev C a Γ) fun p => ∃ xs j, p.1 = .loc j ∧ look p.2 p.1 = some (.lst xs) ∧ Gv (evF C es p.2) fun q => ∃ o d o', q.2[j]? = some (.own o) ∧ mmt m o q.1 = some (d, o') ∧ P (.val d, q.2.set j (.own o'))) : Gv (ev C (.mmt m a es) Γ) P := by
  rw [ev]
  refine gv_bind (gv_mono h fun p h => ?_)
  obtain ⟨r, Γ1⟩ := p
  obtain ⟨xs, j, e1, e2, h⟩ := h
  simp only at e1
  subst e1
  simp only [e2]
  refine gv_bind (gv_some (gv_bind (gv_mono h fun q h => ?_)))
  obtain ⟨o, d, o', e3, e4, p⟩ := h
  simp only [e3, e4]
  exact gv_some p
def dot (cs vs : List Int) : Int := (List.zipWith (· * ·) cs vs).sum
def NumB (ns : List Int) : Prop := ∀ c ∈ ns, -(10 ^ 40) ≤ c ∧ c ≤ 10 ^ 40
theorem zip_map : ∀ cs vs : List Int, zipD (cs.map D.int) (vs.map D.int) = (List.zip cs vs).map fun p => .tup [.int p.1, .int p.2]
  | [], _ => by simp [zipD]
  | _ :: _, [] => by simp [zipD]
  | c :: cs, v :: vs => by simp [zipD, zip_map cs vs]
theorem mul_ok {a b : Int} (h : -(10 ^ 40) ≤ a ∧ a ≤ 10 ^ 40) (g : -(10 ^ 40) ≤ b ∧ b ≤ 10 ^ 40) : mulOk a b := mulOk_s (small60 (by omega)) (small60 (by omega))
/-- [a * b for a, b in zip(..)] -/
theorem prods {C : Mi.Ctx} {own : List Nat} {i j : Nat} {Γ : G} {cs vs : List Int} {Q : List D × G → Prop} (hc : NumB cs) (hv : NumB vs)
    (hs : ∀ x y : Int, Gv (turnK C own (.tup [.nm i, .nm j]) .non (.bin .Mult (.var i) (.var j)) (.tup [.int x, .int y]) Γ) (fun p => p = (some (.int (x * y)), Γ)) ∨ ¬ mulOk x y)
    (h : Q ((List.zipWith (· * ·) cs vs).map D.int, Γ)) : Gv (cprL (turnK C own (.tup [.nm i, .nm j]) .non (.bin .Mult (.var i) (.var j))) (zipD (cs.map D.int) (vs.map D.int)) [] Γ) Q := by
  rw [zip_map]
  have hl : (List.zipWith (· * ·) cs vs).length = (List.zip cs vs).length := by simp
  refine cprL_gv (fun k acc Γ' => Γ' = Γ ∧ acc = ((List.zipWith (· * ·) cs vs).take k).map D.int) ⟨rfl, rfl⟩ ?_ ?_
  · rintro k d acc Γ' hd ⟨rfl, rfl⟩
    rw [List.getElem?_map] at hd
    obtain ⟨⟨x, y⟩, e1, rfl⟩ := Option.map_eq_some_iff.mp hd
    have hm := List.of_mem_zip (List.mem_of_getElem? e1)
    rcases hs x y with g | g
    · refine gv_mono g ?_
      rintro _ rfl
      refine ⟨rfl, ?_⟩
      have e2 : (List.zipWith (· * ·) cs vs)[k]? = some (x * y) := by
        rw [← List.map_uncurry_zip_eq_zipWith, List.getElem?_map, e1]
        rfl
      rw [List.take_add_one, e2]
      simp
    · exact absurd (mul_ok (hc x hm.1) (hv y hm.2)) g
  · rintro acc Γ' ⟨rfl, rfl⟩
    rw [List.length_map, ← hl, List.take_length]
    exact h
abbrev Row := Str × List Int
def rowD (p : Row) : D := .tup [.str p.1, .tup (p.2.map D.int)]
def worthV (ns vs : List Int) : Int := match ns with
  | [] => 0
  | c :: cs => c + dot cs vs
def oneV (vs : List Int) (p : Row) : Bool := !(decide (worthV p.2 vs < 0)) && !((p.1 == "nought") && !(worthV p.2 vs == 0))
def fitsV (sys : List Row) (vs : List Int) : Bool := !(vs.any fun v => decide (v < 0)) && sys.all (oneV vs)
structure SysB (w : Nat) (sys : List Row) : Prop where
  kind : ∀ p ∈ sys, p.1 = "least" ∨ p.1 = "nought"
  len : ∀ p ∈ sys, p.2.length = w + 1
  num : ∀ p ∈ sys, NumB p.2
theorem bls_map : ∀ bs : List Bool, blsD (bs.map D.bl) = some bs
  | [] => rfl
  | n :: ns => by rw [List.map_cons, blsD, bls_map ns]; rfl
/-- [v < 0 for v in values] and the like -/
theorem tests {C : Mi.Ctx} {own : List Nat} {i : Nat} {e : E} {Γ : G} {vs : List Int} {f : Int → Bool} {Q : List D × G → Prop}
    (hs : ∀ x : Int, Gv (turnK C own (.nm i) .non e (.int x) Γ) (fun p => p = (some (.bl (f x)), Γ))) (h : Q ((vs.map f).map D.bl, Γ)) : Gv (cprL (turnK C own (.nm i) .non e) (vs.map D.int) [] Γ) Q := by
  refine cprL_gv (fun k acc Γ' => Γ' = Γ ∧ acc = ((vs.map f).take k).map D.bl) ⟨rfl, rfl⟩ ?_ ?_
  · rintro k d acc Γ' hd ⟨rfl, rfl⟩
    rw [List.getElem?_map] at hd
    obtain ⟨x, e1, rfl⟩ := Option.map_eq_some_iff.mp hd
    refine gv_mono (hs x) ?_
    rintro _ rfl
    refine ⟨rfl, ?_⟩
    have e2 : (vs.map f)[k]? = some (f x) := by rw [List.getElem?_map, e1]; rfl
    rw [List.take_add_one, e2]
    simp
  · rintro acc Γ' ⟨rfl, rfl⟩
    have : vs.length = (vs.map f).length := by simp
    rw [List.length_map, this, List.take_length]
    exact h
def NumL (ns : List Int) : Prop := ∀ c ∈ ns, -(10 ^ 35) ≤ c ∧ c ≤ 10 ^ 35
theorem NumL.b {ns : List Int} (h : NumL ns) : NumB ns := fun c hc => ⟨Int.le_trans (by decide) (h c hc).1, Int.le_trans (h c hc).2 (by decide)⟩
structure SysL (w : Nat) (sys : List Row) : Prop where
  kind : ∀ p ∈ sys, p.1 = "least" ∨ p.1 = "nought"
  len : ∀ p ∈ sys, p.2.length = w + 1
  num : ∀ p ∈ sys, NumL p.2
theorem SysL.b {w : Nat} {sys : List Row} (h : SysL w sys) : SysB w sys := ⟨h.kind, h.len, fun p hp => (h.num p hp).b⟩
theorem cut_lo {xs : List D} (k : Nat) : cutD xs none (some (k : Int)) = xs.take k := by
  unfold cutD
  rw [HT.sIx_none, HT.sIx_nat, List.drop_zero, Nat.sub_zero]
  rcases Nat.le_total k xs.length with h | h
  · rw [Nat.min_eq_left h]
  · rw [Nat.min_eq_right h, List.take_length, List.take_of_length_le h]
theorem cut_hi {xs : List D} (k : Nat) : cutD xs (some (k : Int)) none = xs.drop k := by
  unfold cutD
  rw [HT.sIx_none, HT.sIx_nat]
  rcases Nat.le_total k xs.length with h | h
  · rw [Nat.min_eq_left h]
    exact List.take_of_length_le (by rw [List.length_drop]; omega)
  · rw [Nat.min_eq_right h, List.drop_length, List.drop_of_length_le h]
    simp
theorem dot_b : ∀ (cs vs : List Int), (∀ c ∈ cs, -(10 ^ 20) ≤ c ∧ c ≤ 10 ^ 20) → (∀ v ∈ vs, 0 ≤ v ∧ v ≤ 10 ^ 6) → -(10 ^ 26 * cs.length) ≤ dot cs vs ∧ dot cs vs ≤ 10 ^ 26 * cs.length
  | [], vs, _, _ => by simp [dot]
  | c :: cs, [], _, _ => by
    have : dot (c :: cs) [] = 0 := by simp [dot]
    rw [this]
    constructor <;> omega
  | c :: cs, v :: vs, h, g => by
    have ih := dot_b cs vs (fun x hx => h x (List.mem_cons_of_mem _ hx)) (fun x hx => g x (List.mem_cons_of_mem _ hx))
    have e : dot (c :: cs) (v :: vs) = c * v + dot cs vs := by simp [dot]
    have h1 := h c List.mem_cons_self
    have g1 := g v List.mem_cons_self
    have a1 : c * v ≤ 10 ^ 20 * 10 ^ 6 := Int.le_trans (Int.mul_le_mul_of_nonneg_right h1.2 g1.1) (Int.mul_le_mul_of_nonneg_left g1.2 (by decide))
    have a2 : -(10 ^ 20 * 10 ^ 6) ≤ c * v := by
      have b1 : -(10 ^ 20) * v ≤ c * v := Int.mul_le_mul_of_nonneg_right h1.1 g1.1
      have b2 : (10 ^ 20 : Int) * v ≤ 10 ^ 20 * 10 ^ 6 := Int.mul_le_mul_of_nonneg_left g1.2 (by decide)
      rw [Int.neg_mul] at b1
      omega
    rw [e, List.length_cons]
    have p1 : (10 : Int) ^ 20 * 10 ^ 6 = 10 ^ 26 := by decide
    rw [p1] at a1 a2
    constructor <;> omega
theorem fdiv_b {x u : Int} (h : 0 < u) {B : Int} (hb : -B ≤ x ∧ x ≤ B) : -B ≤ x.fdiv u ∧ x.fdiv u ≤ B := by
  have e : x.fdiv u = x / u := Int.fdiv_eq_ediv_of_nonneg x (Int.le_of_lt h)
  rw [e]
  have hB : 0 ≤ B := by omega
  constructor
  · rw [Int.le_ediv_iff_mul_le h]
    have : B * 1 ≤ B * u := Int.mul_le_mul_of_nonneg_left (by omega) hB
    rw [Int.neg_mul]
    omega
  · refine Int.ediv_le_of_le_mul h ?_
    have : B * 1 ≤ B * u := Int.mul_le_mul_of_nonneg_left (by omega) hB
    omega
theorem gv_it {α : Type} {x y : Option α} {P : α → Prop} (h : Gv x P) : (if (true = true) then Gv x P else Gv y P) := by rw [if_pos rfl]; exact h
theorem gv_if2 {α : Type} {x y : Option α} {P : α → Prop} (h : Gv y P) : (if (false = true) then Gv x P else Gv y P) := by rw [if_neg (by decide)]; exact h
theorem it_ {p q : Prop} (h : p) : (if (true = true) then p else q) := by rw [if_pos rfl]; exact h
theorem if_ {p q : Prop} (h : q) : (if (false = true) then p else q) := by rw [if_neg (by decide)]; exact h
theorem nit_ {p q : Prop} (h : q) : (if ((!true) = true) then p else q) := by rw [if_neg (by decide)]; exact h
theorem nif_ {p q : Prop} (h : p) : (if ((!false) = true) then p else q) := by rw [if_pos (by decide)]; exact h
/-- a test that some b tells -/
theorem if_b {p q : Prop} {b : Bool} (h1 : b = true → p) (h2 : b = false → q) : (if (b = true) then p else q) := by
  cases b with
  | true => rw [if_pos rfl]; exact h1 rfl
  | false => rw [if_neg (by decide)]; exact h2 rfl
theorem if_d {p q c : Prop} [Decidable c] (h1 : c → p) (h2 : ¬ c → q) : (if (decide c = true) then p else q) := if_b (fun h => h1 (of_decide_eq_true h)) fun h => h2 (of_decide_eq_false h)
theorem if_e {p q : Prop} {i j : Int} (h1 : i = j → p) (h2 : i ≠ j → q) : (if ((i == j) = true) then p else q) := if_b (fun h => h1 (eq_of_beq h)) fun h => h2 fun e => by rw [e] at h; simp at h
theorem if_n {p q : Prop} {i j : Int} (h1 : i ≠ j → p) (h2 : i = j → q) : (if ((!(i == j)) = true) then p else q) := if_b (fun h => h1 fun e => by rw [e] at h; simp at h) fun h => h2 (by simpa using h)
theorem range_len {w : Nat} : (rangeL 0 (w : Int).toNat 1).length = w := by unfold rangeL; simp
theorem range_at {w k : Nat} {d : D} (h : (rangeL 0 (w : Int).toNat 1)[k]? = some d) : d = .int k ∧ k < w := by
  have hl := (List.getElem?_eq_some_iff.mp h).1
  rw [range_len] at hl
  unfold rangeL at h
  rw [List.getElem?_map] at h
  obtain ⟨q, e1, e2⟩ := Option.map_eq_some_iff.mp h
  have e3 := (List.getElem?_eq_some_iff.mp e1).2
  simp at e3
  rw [← e2, ← e3]
  exact ⟨by simp, hl⟩
section
variable {C : Ctx} {own : List Nat} {t : Tg} {c : Eo} {e : E} {Q : List D × G → Prop} {α β : Type}
/-- [f(x) for x in xs], nothing changed -/
theorem cpr_map {Γ : G} {xs : List α} (emb f : α → D) (hs : ∀ x ∈ xs, Gv (turnK C own t c e (emb x) Γ) (fun p => p = (some (f x), Γ))) (h : Q (xs.map f, Γ)) : Gv (cprL (turnK C own t c e) (xs.map emb) [] Γ) Q := by
  refine cprL_gv (fun k acc Γ' => Γ' = Γ ∧ acc = (xs.take k).map f) ⟨rfl, rfl⟩ ?_ ?_
  · rintro k d acc Γ' hd ⟨rfl, rfl⟩
    rw [List.getElem?_map] at hd
    obtain ⟨x, e1, rfl⟩ := Option.map_eq_some_iff.mp hd
    refine gv_mono (hs x (List.mem_of_getElem? e1)) ?_
    rintro _ rfl
    refine ⟨rfl, ?_⟩
    rw [List.take_add_one, e1]
    simp
  · rintro acc Γ' ⟨rfl, rfl⟩
    rw [List.length_map, List.take_length]
    exact h
/-- [f(x) for x in xs], what stays -/
theorem cpr_mapI {Γ : G} {xs : List α} (emb f : α → D) (I : G → Prop) (h0 : I Γ) (hs : ∀ x ∈ xs, ∀ Γ, I Γ → Gv (turnK C own t c e (emb x) Γ) (fun p => p.1 = some (f x) ∧ I p.2)) (h : ∀ Γ, I Γ → Q (xs.map f, Γ)) : Gv (cprL (turnK C own t c e) (xs.map emb) [] Γ) Q := by
  refine cprL_gv (fun k acc Γ' => I Γ' ∧ acc = (xs.take k).map f) ⟨h0, rfl⟩ ?_ ?_
  · rintro k d acc Γ' hd ⟨hI, rfl⟩
    rw [List.getElem?_map] at hd
    obtain ⟨x, e1, rfl⟩ := Option.map_eq_some_iff.mp hd
    refine gv_mono (hs x (List.mem_of_getElem? e1) Γ' hI) ?_
    rintro ⟨y, Γ2⟩ ⟨e2, hI2⟩
    simp only at e2
    subst e2
    refine ⟨hI2, ?_⟩
    rw [List.take_add_one, e1]
    simp
  · rintro acc Γ' ⟨hI, rfl⟩
    rw [List.length_map, List.take_length]
    exact h Γ' hI
/-- [f(x) for x in xs if p(x)], nothing changed -/
theorem cpr_filter {Γ : G} {xs : List α} (emb f : α → D) (p : α → Bool) (hs : ∀ x ∈ xs, Gv (turnK C own t c e (emb x) Γ) (fun q => q = (if p x then some (f x) else none, Γ))) (h : Q ((xs.filter p).map f, Γ)) : Gv (cprL (turnK C own t c e) (xs.map emb) [] Γ) Q := by
  refine cprL_gv (fun k acc Γ' => Γ' = Γ ∧ acc = ((xs.take k).filter p).map f) ⟨rfl, rfl⟩ ?_ ?_
  · rintro k d acc Γ' hd ⟨rfl, rfl⟩
    rw [List.getElem?_map] at hd
    obtain ⟨x, e1, rfl⟩ := Option.map_eq_some_iff.mp hd
    refine gv_mono (hs x (List.mem_of_getElem? e1)) ?_
    rintro _ rfl
    refine ⟨rfl, ?_⟩
    rw [List.take_add_one, e1, List.filter_append, List.map_append]
    cases hp : p x <;> simp [hp]
  · rintro acc Γ' ⟨rfl, rfl⟩
    rw [List.length_map, List.take_length]
    exact h
theorem cpr_bools {Γ : G} {xs : List α} (emb : α → D) (f : α → Bool) (hs : ∀ x ∈ xs, Gv (turnK C own t c e (emb x) Γ) (fun p => p = (some (.bl (f x)), Γ))) (h : Q ((xs.map f).map D.bl, Γ)) : Gv (cprL (turnK C own t c e) (xs.map emb) [] Γ) Q :=
  cpr_map emb (fun x => .bl (f x)) hs (by rw [List.map_map] at h; exact h)
theorem cpr_boolsD {Γ : G} {xs : List D} (f : D → Bool) (hs : ∀ x ∈ xs, Gv (turnK C own t c e x Γ) (fun p => p = (some (.bl (f x)), Γ))) (h : Q ((xs.map f).map D.bl, Γ)) : Gv (cprL (turnK C own t c e) xs [] Γ) Q := by
  have := cpr_bools (Q := Q) (xs := xs) id f hs h
  rwa [List.map_id] at this
theorem cpr_mapD {Γ : G} {xs : List D} (f : D → D) (hs : ∀ x ∈ xs, Gv (turnK C own t c e x Γ) (fun p => p = (some (f x), Γ))) (h : Q (xs.map f, Γ)) : Gv (cprL (turnK C own t c e) xs [] Γ) Q := by
  have := cpr_map (Q := Q) (xs := xs) id f hs h
  rwa [List.map_id] at this
/-- [.. for .. in range(w)], each turn draws -/
theorem cpr_draws {Γ : OD → G} {w : Nat} {o : OD} (A : D → Prop) (J : Nat → OD → Prop) (h0 : J 0 o)
    (hs : ∀ k o, k < w → J k o → Gv (turnK C own t c e (.int k) (Γ o)) (fun p => ∃ y o', p = (some y, Γ o') ∧ A y ∧ J (k + 1) o')) (h : ∀ (ds : List D) (o : OD), ds.length = w → (∀ d ∈ ds, A d) → J w o → Q (ds, Γ o)) :
    Gv (cprL (turnK C own t c e) (rangeL 0 (w : Int).toNat 1) [] (Γ o)) Q := by
  refine cprL_gv (fun k acc Γ' => ∃ o, Γ' = Γ o ∧ acc.length = k ∧ (∀ d ∈ acc, A d) ∧ J k o) ⟨o, rfl, rfl, by simp, h0⟩ ?_ ?_
  · rintro k d acc Γ' hd ⟨o, rfl, hl, ha, hj⟩
    obtain ⟨rfl, hk⟩ := range_at hd
    refine gv_mono (hs k o hk hj) ?_
    rintro _ ⟨y, o', rfl, hy, hj'⟩
    refine ⟨o', rfl, by simp [hl], fun d hd => ?_, hj'⟩
    rcases List.mem_append.mp hd with hd | hd
    · exact ha d hd
    · rw [List.mem_singleton.mp hd]; exact hy
  · rintro acc Γ' ⟨o, rfl, hl, ha, hj⟩
    rw [range_len] at hl hj
    exact h acc o hl ha hj
theorem ints_of {P : Int → Prop} : ∀ {ds : List D}, (∀ d ∈ ds, ∃ z, d = .int z ∧ P z) → ∃ cs : List Int, ds = cs.map D.int ∧ ∀ c ∈ cs, P c
  | [], _ => ⟨[], rfl, by simp⟩
  | d :: ds, h => by
    obtain ⟨z, rfl, hz⟩ := h d List.mem_cons_self
    obtain ⟨cs, rfl, hc⟩ := ints_of (ds := ds) fun d hd => h d (List.mem_cons_of_mem _ hd)
    exact ⟨z :: cs, rfl, fun c hc' => by
      rcases List.mem_cons.mp hc' with rfl | hc'
      · exact hz
      · exact hc c hc'⟩
theorem cpr_ints {Γ : OD → G} {w : Nat} {o : OD} (P : Int → Prop) (J : Nat → OD → Prop) (h0 : J 0 o)
    (hs : ∀ k o, k < w → J k o → Gv (turnK C own t c e (.int k) (Γ o)) (fun p => ∃ z o', p = (some (.int z), Γ o') ∧ P z ∧ J (k + 1) o')) (h : ∀ (cs : List Int) (o : OD), cs.length = w → (∀ d ∈ cs, P d) → J w o → Q (cs.map D.int, Γ o)) :
    Gv (cprL (turnK C own t c e) (rangeL 0 (w : Int).toNat 1) [] (Γ o)) Q := by
  refine cpr_draws (fun d => ∃ z, d = .int z ∧ P z) J h0 (fun k o hk hj => gv_mono (hs k o hk hj) ?_) ?_
  · rintro _ ⟨z, o', rfl, hz, hj'⟩
    exact ⟨_, o', rfl, ⟨z, rfl, hz⟩, hj'⟩
  · intro ds o hl ha hj
    obtain ⟨cs, rfl, hc⟩ := ints_of ha
    exact h cs o (by simpa using hl) hc hj
variable {ss : Ss} {Ps : Fl × G → Prop}
/-- for x in xs: .. return False .. : all pass, or one doesn't -/
theorem for_all {Γ : G} {xs : List α} (emb : α → D) (p : α → Bool) (I : G → Prop) (h0 : I Γ)
    (hs : ∀ x ∈ xs, ∀ Γ, I Γ → Gv (turnL C t ss (emb x) Γ) fun q => if p x = true then q.1 = .nx ∧ I q.2 else q.1 = .rt (.val (.bl false)) ∧ I q.2)
    (h1 : ∀ Γ, I Γ → xs.all p = true → Ps (.nx, Γ)) (h2 : ∀ Γ, I Γ → xs.all p = false → Ps (.rt (.val (.bl false)), Γ)) : Gv (forL (turnL C t ss) (xs.map emb) Γ) Ps := by
  refine forL_gv (fun i Γ => I Γ ∧ (xs.take i).all p = true) ⟨h0, rfl⟩ ?_ ?_
  · rintro i d Γ hd ⟨hI, ha⟩
    rw [List.getElem?_map] at hd
    obtain ⟨x, e1, rfl⟩ := Option.map_eq_some_iff.mp hd
    have hx := List.mem_of_getElem? e1
    refine gv_mono (hs x hx Γ hI) ?_
    rintro ⟨f, Γ'⟩ h
    cases hp : p x with
    | true =>
      rw [hp, if_pos rfl] at h
      obtain ⟨e, hI'⟩ := h
      simp only at e
      subst e
      refine ⟨hI', ?_⟩
      rw [List.take_add_one, e1]
      simp only [Option.toList, List.all_append, ha, Bool.true_and, List.all_cons, hp, List.all_nil]
    | false =>
      rw [hp, if_neg (by decide)] at h
      obtain ⟨e, hI'⟩ := h
      simp only at e
      subst e
      refine h2 Γ' hI' ?_
      cases hb : xs.all p with
      | false => rfl
      | true => rw [List.all_eq_true.mp hb _ hx] at hp; cases hp
  · rintro Γ ⟨hI, ha⟩
    rw [List.length_map, List.take_length] at ha
    exact h1 Γ hI ha
/-- for x in xs, whatever else: what stays -/
theorem for_list {Γ : G} {xs : List α} (emb : α → D) (I : Nat → G → Prop) (h0 : I 0 Γ) (hs : ∀ i x Γ, xs[i]? = some x → I i Γ → Gv (turnL C t ss (emb x) Γ) fun p => match p.1 with
      | .nx => I (i + 1) p.2
      | .ct => I (i + 1) p.2
      | .bk => Ps (.nx, p.2)
      | .rt r => Ps (.rt r, p.2)) (h : ∀ Γ, I xs.length Γ → Ps (.nx, Γ)) : Gv (forL (turnL C t ss) (xs.map emb) Γ) Ps := by
  refine forL_gv I h0 (fun i d Γ hd hI => ?_) (fun Γ hI => h Γ (by rw [List.length_map] at hI; exact hI))
  rw [List.getElem?_map] at hd
  obtain ⟨x, e1, rfl⟩ := Option.map_eq_some_iff.mp hd
  exact hs i x Γ e1 hI
end
theorem gs_augx {C : Ctx} {Γ : G} {b i e : E} {op : Operator} {Ps : Fl × G → Prop} (h : Gv (ev C b Γ) fun rb => Gv (ev C i rb.2) fun ri => Gv (look ri.2 rb.1) fun o => Gv (look ri.2 ri.1) fun k => Gv (idxD o k) fun x => Gv (ev C e ri.2) fun re => Gv (look re.2 re.1) fun y => Gv (aop op x y) fun d => ∃ j o o', rb.1 = .loc j ∧ re.2[j]? = some (.own o) ∧ setD k d o = some o' ∧ Ps (.nx, re.2.set j (.own o'))) : Gv (ex C (.augx b i op e) Γ) Ps := by
  rw [ex]
  refine gv_bind (gv_mono h fun rb h => gv_bind (gv_mono h fun ri h => gv_bind (gv_mono h fun o h => gv_bind (gv_mono h fun k h => gv_bind (gv_mono h fun x h => gv_bind (gv_mono h fun re h => gv_bind (gv_mono h fun y h => gv_bind (gv_mono h fun d h => ?_))))))))
  obtain ⟨j, o1, o', e1, e2, e3, h⟩ := h
  obtain ⟨r1, Γ1⟩ := rb
  simp only at e1
  subst e1
  simp only [e2, e3]
  exact gv_some (by assumption)
theorem gs_aug {C : Ctx} {Γ : G} {i : Nat} {e : E} {op : Operator} {x : D} {Ps : Fl × G → Prop} (hx : Γ[i]? = some (.val x)) (h : Gv (ev C e Γ) fun re => Gv (look re.2 re.1) fun y => Gv (aop op x y) fun d => i < re.2.length ∧ Ps (.nx, re.2.set i (.val d))) : Gv (ex C (.aug i op e) Γ) Ps := by
  rw [ex, hx]
  refine gv_bind (gv_mono h fun re h => gv_bind (gv_mono h fun y h => gv_bind (gv_mono h fun d h => ?_)))
  exact gv_if h.1 (gv_some h.2)
theorem gl_aadd {i j : Int} {Q : D → Prop} (p : Q (.int (i + j))) : Gv (aop .Add (.int i) (.int j)) Q := gv_is rfl p
theorem gl_asub {i j : Int} {Q : D → Prop} (p : Q (.int (i - j))) : Gv (aop .Sub (.int i) (.int j)) Q := gv_is rfl p
theorem gi_enu {C : Ctx} {Γ : G} {a : E} {Q : List D × List Nat × G → Prop} (h : Gv (ev C a Γ) fun p => Gv (look p.2 p.1) fun x => Gv (items x) fun ds => Q (enuD 0 ds, (lend p.2 p.1).2.toList, (lend p.2 p.1).1)) : Gv (evI C (.enu a) Γ) Q := by
  rw [evI]
  exact gv_bind (gv_mono h fun p h => gv_bind (gv_mono h fun q h => gv_map h))
theorem gi_rev {C : Ctx} {Γ : G} {a : E} {Q : List D × List Nat × G → Prop} (h : Gv (ev C a Γ) fun p => Gv (look p.2 p.1) fun x => Gv (itemsL x) fun ds => Q (ds.reverse, (lend p.2 p.1).2.toList, (lend p.2 p.1).1)) : Gv (evI C (.rev a) Γ) Q := by
  rw [evI]
  exact gv_bind (gv_mono h fun p h => gv_bind (gv_mono h fun q h => gv_map h))
theorem enu_at : ∀ {xs : List D} {k i : Nat} {d : D}, (enuD k xs)[i]? = some d → ∃ x, xs[i]? = some x ∧ d = .tup [.int ((k + i : Nat) : Int), x]
  | [], k, i, d, h => by simp [enuD] at h
  | x :: xs, k, 0, d, h => ⟨x, rfl, by simpa [enuD] using h.symm⟩
  | x :: xs, k, i + 1, d, h => by
    obtain ⟨y, e1, e2⟩ := enu_at (xs := xs) (k := k + 1) (i := i) (by simpa [enuD] using h)
    exact ⟨y, e1, by rw [e2, show k + 1 + i = k + (i + 1) by omega]⟩
theorem enu_len : ∀ {xs : List D} {k : Nat}, (enuD k xs).length = xs.length
  | [], _ => rfl
  | x :: xs, k => by rw [enuD, List.length_cons, List.length_cons, enu_len]
theorem rep_flat {z : Int} : ∀ k : Nat, (List.replicate k [D.int z]).flatten = (List.replicate k z).map D.int
  | 0 => rfl
  | k + 1 => by rw [List.replicate_succ, List.flatten_cons, List.replicate_succ, List.map_cons, rep_flat k]; rfl
theorem gl_rep {z : Int} {k : Nat} {P : R → Prop} (h : k ≤ 1000000) (p : P (.fr (.lst ((List.replicate k z).map D.int)))) : Gv (bop .Mult (.lst [.int z]) (.int (k : Int))) P := by
  refine gv_is ?_ p
  show (if ((k : Int) < 16777216 ∧ -16777216 < (k : Int) ∧ [D.int z].length * (k : Int).toNat ≤ line) then nl (List.replicate (k : Int).toNat [D.int z]).flatten else none) = _
  rw [if_pos ⟨by omega, by omega, by show 1 * (k : Int).toNat ≤ 16777216; omega⟩]
  have : (List.replicate (k : Int).toNat [D.int z]).flatten = (List.replicate k z).map D.int := by rw [Int.toNat_natCast, rep_flat]
  rw [this]
  rfl
theorem zipD_map {α β : Type} (f : α → D) (g : β → D) : ∀ (xs : List α) (ys : List β), zipD (xs.map f) (ys.map g) = (xs.zip ys).map fun p => .tup [f p.1, g p.2]
  | [], _ => by simp [zipD]
  | _ :: _, [] => by simp [zipD]
  | x :: xs, y :: ys => by simp [zipD, zipD_map f g xs ys]
/-- a list changed from its head on -/
theorem td_get {α : Type} {full old : List α} (hl : full.length = old.length) {j : Nat} (hj : j < old.length) : (full.take j ++ old.drop j)[j]? = some old[j] := by
  rw [List.getElem?_append_right (by rw [List.length_take]; omega), List.length_take, Nat.min_eq_left (by omega), Nat.sub_self, List.getElem?_drop, Nat.add_zero, List.getElem?_eq_getElem hj]
theorem td_set {α : Type} {full old : List α} (hl : full.length = old.length) {j : Nat} (hj : j < full.length) : (full.take j ++ old.drop j).set j full[j] = full.take (j + 1) ++ old.drop (j + 1) := by
  rw [List.set_append_right _ _ (by rw [List.length_take]; omega), List.length_take, Nat.min_eq_left (by omega), Nat.sub_self, List.drop_eq_getElem_cons (by omega : j < old.length), List.set_cons_zero, show full.take (j + 1) = full.take j ++ [full[j]] from by rw [List.take_add_one, List.getElem?_eq_getElem hj]; rfl, List.append_assoc]
  rfl
theorem td_len {α : Type} {full old : List α} (hl : full.length = old.length) (j : Nat) : (full.take j ++ old.drop j).length = old.length := by
  rw [List.length_append, List.length_take, List.length_drop]
  omega
theorem setD_nat {xs : List D} {k : Nat} {d : D} (h : k < xs.length) : setD (.int (k : Int)) d (.lst xs) = some (.lst (xs.set k d)) := by
  show ((ixn xs.length (k : Int)).map fun j => OD.lst (xs.set j d)) = _
  unfold ixn
  rw [if_pos (Int.natCast_nonneg k), if_pos (by simpa using h)]
  simp
/-- rows added, each so many times -/
def addedV (w : Nat) (rows : List (List Int)) (ws : List Int) : List Int := (rows.zip ws).foldl (fun tot p => List.zipWith (fun t c => t + p.2 * c) tot p.1) (List.replicate (w + 1) 0)
theorem added_len {w : Nat} : ∀ {l : List (List Int × Int)} {tot : List Int}, (∀ p ∈ l, p.1.length = w + 1) → tot.length = w + 1 → (l.foldl (fun tot p => List.zipWith (fun t c => t + p.2 * c) tot p.1) tot).length = w + 1
  | [], _, _, h => h
  | p :: l, tot, h, g => by
    rw [List.foldl_cons]
    exact added_len (fun q hq => h q (List.mem_cons_of_mem _ hq)) (by rw [List.length_zipWith, g, h p List.mem_cons_self, Nat.min_self])
theorem gl_star {i j : Nat} {d : D} {ds : List D} {Γ : G} {Q : G → Prop} (h : ds.length ≤ 16000) (hj : j < Γ.length) (hi : i < Γ.length) (p : Q ((Γ.set j (.val d)).set i (.own (.lst ds)))) : Gv (asg (.star [j] i) (.val (.tup (d :: ds))) Γ) Q := by
  refine gv_is ?_ p
  show (frz _ (.val (.tup (d :: ds)))).bind (fun (d, Γ') => put (.star [j] i) d Γ') = _
  simp [frz, put, putn, hj, hi]
  omega
theorem gl_starL {i j : Nat} {d : D} {ds : List D} {Γ : G} {Q : G → Prop} (h : ds.length ≤ 16000) (hj : j < Γ.length) (hi : i < Γ.length) (p : Q ((Γ.set j (.val d)).set i (.own (.lst ds)))) : Gv (asg (.star [j] i) (.val (.lst (d :: ds))) Γ) Q := by
  refine gv_is ?_ p
  show (frz _ (.val (.lst (d :: ds)))).bind (fun (d, Γ') => put (.star [j] i) d Γ') = _
  simp [frz, put, putn, hj, hi]
  omega
theorem mem_zipWith {α β γ : Type} {f : α → β → γ} : ∀ {as : List α} {bs : List β} {x : γ}, x ∈ List.zipWith f as bs → ∃ a ∈ as, ∃ b ∈ bs, x = f a b
  | [], _, x, h => by simp at h
  | _ :: _, [], x, h => by simp at h
  | a :: as, b :: bs, x, h => by
    rw [List.zipWith_cons_cons] at h
    rcases List.mem_cons.mp h with rfl | h
    · exact ⟨a, List.mem_cons_self, b, List.mem_cons_self, rfl⟩
    · obtain ⟨a', ha, b', hb, e⟩ := mem_zipWith h
      exact ⟨a', List.mem_cons_of_mem _ ha, b', List.mem_cons_of_mem _ hb, e⟩
theorem added_b {B W : Nat} : ∀ {l : List (List Int × Int)} {tot : List Int} {A : Nat}, (∀ p ∈ l, (∀ c ∈ p.1, c.natAbs ≤ B) ∧ p.2.natAbs ≤ W) → (∀ t ∈ tot, t.natAbs ≤ A) →
    ∀ t ∈ l.foldl (fun tot p => List.zipWith (fun t c => t + p.2 * c) tot p.1) tot, t.natAbs ≤ A + l.length * (W * B)
  | [], tot, A, _, h => by simpa using h
  | p :: l, tot, A, hl, h => by
    rw [List.foldl_cons]
    intro t ht
    have := added_b (A := A + W * B) (fun q hq => hl q (List.mem_cons_of_mem _ hq)) (fun t ht => by
      obtain ⟨a, ha, c, hc, rfl⟩ := mem_zipWith ht
      have h1 := h a ha
      obtain ⟨h2, h3⟩ := hl p List.mem_cons_self
      have h4 : (p.2 * c).natAbs ≤ W * B := by rw [Int.natAbs_mul]; exact Nat.mul_le_mul h3 (h2 c hc)
      have h5 := Int.natAbs_add_le a (p.2 * c)
      omega) t ht
    rw [List.length_cons, Nat.add_mul]
    omega
theorem range_zero {w : Nat} : (rangeL 0 (w : Int).toNat 1).map (fun _ => D.int 0) = (List.replicate w (0 : Int)).map D.int := by
  rw [List.map_replicate, List.eq_replicate_iff]
  exact ⟨by rw [List.length_map, range_len], fun b hb => by obtain ⟨_, _, rfl⟩ := List.mem_map.mp hb; rfl⟩
theorem gl_app {C : Ctx} {Γ : G} {i : Nat} {xs : List D} {es : Es} {P : R × G → Prop} (h0 : Γ[i]? = some (.own (.lst xs))) (h : Gv (evF C es Γ) fun q => ∃ y ys, q.1 = [y] ∧ q.2[i]? = some (.own (.lst ys)) ∧ ys.length < 16777216 ∧ P (.val .non, q.2.set i (.own (.lst (ys ++ [y]))))) : Gv (ev C (.mmt .append (.var i) es) Γ) P := by
  refine gv_mmt (gv_var (r := .loc i) (by unfold geti; rw [h0]) ⟨xs, i, rfl, by show look Γ (.loc i) = _; simp [look, h0, OD.d], gv_mono h fun q h => ?_⟩)
  obtain ⟨y, ys, e1, e2, e3, p⟩ := h
  refine ⟨.lst ys, .non, .lst (ys ++ [y]), e2, ?_, p⟩
  rw [e1]
  show (if ys.length < line then some (D.non, OD.lst (ys ++ [y])) else none) = _
  rw [if_pos e3]
theorem gl_ins {C : Ctx} {Γ : G} {i : Nat} {xs : List D} {es : Es} {P : R × G → Prop} (h0 : Γ[i]? = some (.own (.lst xs))) (h : Gv (evF C es Γ) fun q => ∃ y ys j, q.1 = [.int (j : Nat), y] ∧ q.2[i]? = some (.own (.lst ys)) ∧ ys.length < 16777216 ∧ j < 16777216 ∧ P (.val .non, q.2.set i (.own (.lst (ys.take j ++ y :: ys.drop j))))) : Gv (ev C (.mmt .insert (.var i) es) Γ) P := by
  refine gv_mmt (gv_var (r := .loc i) (by unfold geti; rw [h0]) ⟨xs, i, rfl, by show look Γ (.loc i) = _; simp [look, h0, OD.d], gv_mono h fun q h => ?_⟩)
  obtain ⟨y, ys, j, e1, e2, e3, e4, p⟩ := h
  refine ⟨.lst ys, .non, .lst (ys.take j ++ y :: ys.drop j), e2, ?_, p⟩
  rw [e1]
  show (if ys.length < line ∧ (0 : Int) ≤ (j : Int) ∧ (j : Int) < 16777216 then some (D.non, OD.lst (ys.take (j : Int).toNat ++ y :: ys.drop (j : Int).toNat)) else none) = _
  rw [if_pos ⟨e3, by omega, by omega⟩, Int.toNat_natCast]
theorem gs_par {C : Ctx} {Γ : G} {i j : Nat} {a b : E} {Ps : Fl × G → Prop} (h : Gv (ev C a Γ) fun p => Gv (frz p.2 p.1) fun q => Gv (ev C b q.2) fun s => Gv (frz s.2 s.1) fun t => i < t.2.length ∧ j < t.2.length ∧ i ≠ j ∧ Ps (.nx, (t.2.set i (.val q.1)).set j (.val t.1))) : Gv (ex C (.par i j a b) Γ) Ps := by
  rw [ex]
  refine gv_bind (gv_mono h fun p h => gv_bind (gv_mono h fun q h => gv_bind (gv_mono h fun s h => gv_bind (gv_mono h fun t h => ?_))))
  exact gv_if ⟨h.1, h.2.1, h.2.2.1⟩ (gv_some h.2.2.2)
/-! ### while; repr -/
theorem whl_gv {test : G → Option (Bool × G)} {turn : G → Option (Fl × G)} {Ps : Fl × G → Prop} (I : Nat → G → Prop)
    (h : ∀ m Γ, I m Γ → Gv (test Γ) fun p => if p.1 = true then Gv (turn p.2) fun q => match q.1 with
      | .nx => ∃ m', m' < m ∧ I m' q.2
      | .ct => ∃ m', m' < m ∧ I m' q.2
      | .bk => Ps (.nx, q.2)
      | .rt r => Ps (.rt r, q.2) else Ps (.nx, p.2)) : ∀ n m Γ, m < n → I m Γ → Gv (whlL test turn n Γ) Ps
  | 0, m, Γ, hn, _ => by omega
  | n + 1, m, Γ, hn, hI => by
    rw [whlL]
    refine gv_bind (gv_mono (h m Γ hI) fun p hp => ?_)
    obtain ⟨b, Γ1⟩ := p
    cases b with
    | false => exact gv_some hp
    | true =>
      refine gv_bind (gv_mono hp fun q hq => ?_)
      obtain ⟨f, Γ2⟩ := q
      cases f with
      | nx => obtain ⟨m', h1, h2⟩ := hq; exact whl_gv I h n m' Γ2 (by omega) h2
      | ct => obtain ⟨m', h1, h2⟩ := hq; exact whl_gv I h n m' Γ2 (by omega) h2
      | bk => exact gv_some hq
      | rt r => exact gv_some hq
theorem gs_whl {C : Ctx} {Γ : G} {c : E} {b : Ss} {Ps : Fl × G → Prop} (h : Gv (whlL (fun Γ1 => evT C c Γ1) (fun Γ1 => exs C b Γ1) C.wf Γ) Ps) : Gv (ex C (.whl c b) Γ) Ps := by rw [ex]; exact h
theorem gl_abs {i : Int} {P : R → Prop} (p : P (.val (.int i.natAbs))) : Gv (bi .abs [.int i]) P := by
  refine gv_is ?_ p
  show vl (.int (if i < 0 then -i else i)) = _
  have : (if i < 0 then -i else i) = (i.natAbs : Int) := by split <;> omega
  rw [this]
  rfl
structure RO (k n : Nat) (d : D) : Prop where
  pl : plainN k d = true
  sh : (pyOf d).showable = true
  len : (pyOf d).shown.length ≤ n
theorem RO.mono {k n m : Nat} {d : D} (h : RO k n d) (l : n ≤ m) : RO k m d := ⟨h.pl, h.sh, Nat.le_trans h.len l⟩
theorem RO.int {k : Nat} {i : Int} (h : i.natAbs < 10 ^ 100) : RO k 101 (.int i) := by
  refine ⟨by cases k <;> rfl, ?_, ?_⟩
  · show decide (i.natAbs.log2 < 1920) = true
    refine decide_eq_true ?_
    by_cases h0 : i.natAbs = 0
    · rw [h0]; decide
    · exact Nat.lt_trans ((Nat.log2_lt h0).mpr (Nat.lt_trans h (show 10 ^ 100 < 2 ^ 400 from by decide +kernel))) (by decide)
  · show (Str.ofString (toString i)).length ≤ 101
    have := int_text_length_le10 (a := i) (k := 100) (by decide) h
    rw [ofString_length]
    exact this
theorem RO.items {k n : Nat} : ∀ {ds : List D}, (∀ d ∈ ds, RO k n d) → plainsN k ds = true ∧ PyData.showableAll (pysOf ds) = true ∧ ((PyData.shownAll (pysOf ds)).map (·.length)).sum ≤ n * ds.length ∧ (PyData.shownAll (pysOf ds)).length = ds.length
  | [], _ => by cases k <;> exact ⟨rfl, rfl, Nat.le_refl _, rfl⟩
  | d :: ds, h => by
    obtain ⟨h1, h2, h3, h4⟩ := RO.items (ds := ds) fun x hx => h x (List.mem_cons_of_mem _ hx)
    have hd := h d List.mem_cons_self
    have hl := hd.len
    refine ⟨by rw [plainsN, hd.pl, h1]; rfl, by rw [pysOf, PyData.showableAll, hd.sh, h2]; rfl, ?_, by rw [pysOf, PyData.shownAll, List.length_cons, List.length_cons, h4]⟩
    rw [pysOf, PyData.shownAll, List.map_cons, List.sum_cons, List.length_cons, Nat.mul_add]
    omega
theorem RO.lst {k n : Nat} {ds : List D} (h : ∀ d ∈ ds, RO k n d) : RO (k + 1) ((n + 2) * ds.length + 3) (.lst ds) := by
  obtain ⟨h1, h2, h3, h4⟩ := RO.items h
  refine ⟨by rw [plainN]; exact h1, h2, ?_⟩
  have := listText_len_le (PyData.shownAll (pysOf ds))
  show (listText (PyData.shownAll (pysOf ds))).length ≤ _
  rw [h4] at this
  rw [Nat.add_mul]
  omega
theorem RO.tup {k n : Nat} {ds : List D} (h : ∀ d ∈ ds, RO k n d) : RO (k + 1) ((n + 2) * ds.length + 3) (.tup ds) := by
  obtain ⟨h1, h2, h3, h4⟩ := RO.items h
  refine ⟨by rw [plainN]; exact h1, h2, ?_⟩
  have := tupleText_len_le (PyData.shownAll (pysOf ds))
  show (tupleText (PyData.shownAll (pysOf ds))).length ≤ _
  rw [h4] at this
  rw [Nat.add_mul]
  omega
theorem gl_repr {d : D} {P : R → Prop} (h : RO 60 16777216 d) (p : P (.val (.str (pyOf d).shown))) : Gv (bi .repr [d]) P := by
  refine gv_is ?_ p
  show (if ((plain d || dicFlat d) && (pyOf d).showable && decide ((pyOf d).shown.length ≤ line)) = true then vl (.str (pyOf d).shown) else none) = _
  rw [if_pos]
  · rfl
  · simp only [Bool.and_eq_true, decide_eq_true_eq]
    exact ⟨⟨by show (plainN 60 d || dicFlat d) = true; rw [h.pl]; rfl, h.sh⟩, h.len⟩
theorem gl_reprD {ks : List Key} {ds : List D} {P : R → Prop} (h1 : flats ds = true) (h2 : (pyOf (.dic ks ds)).showable = true) (h3 : (pyOf (.dic ks ds)).shown.length ≤ line) (p : P (.val (.str (pyOf (.dic ks ds)).shown))) : Gv (bi .repr [.dic ks ds]) P := by
  refine gv_is ?_ p
  show (if ((plain (.dic ks ds) || dicFlat (.dic ks ds)) && (pyOf (.dic ks ds)).showable && decide ((pyOf (.dic ks ds)).shown.length ≤ line)) = true then vl (.str (pyOf (.dic ks ds)).shown) else none) = _
  rw [if_pos]
  · rfl
  · simp only [Bool.and_eq_true, decide_eq_true_eq]
    exact ⟨⟨by show (_ || flats ds) = true; rw [h1, Bool.or_true], h2⟩, h3⟩
/-! ### greatest divisors -/
def gcdN (l : List Int) : Nat := l.foldl (fun g c => Nat.gcd g c.natAbs) 0
theorem gcdN_dvd' {d : Nat} : ∀ {l : List Int} {g : Nat}, d ∣ l.foldl (fun g c => Nat.gcd g c.natAbs) g ↔ d ∣ g ∧ ∀ c ∈ l, d ∣ c.natAbs
  | [], g => by simp
  | c :: l, g => by
    rw [List.foldl_cons, gcdN_dvd', Nat.dvd_gcd_iff]
    simp only [List.mem_cons, forall_eq_or_imp, and_assoc]
theorem gcdN_dvd {d : Nat} {l : List Int} : d ∣ gcdN l ↔ ∀ c ∈ l, d ∣ c.natAbs := by
  unfold gcdN
  rw [gcdN_dvd']
  exact ⟨fun h => h.2, fun h => ⟨Nat.dvd_zero _, h⟩⟩
theorem gcdN_ext {l m : List Int} (h1 : ∀ d : Nat, (∀ c ∈ l, d ∣ c.natAbs) → ∀ c ∈ m, d ∣ c.natAbs) (h2 : ∀ d : Nat, (∀ c ∈ m, d ∣ c.natAbs) → ∀ c ∈ l, d ∣ c.natAbs) : gcdN l = gcdN m :=
  Nat.dvd_antisymm (gcdN_dvd.mpr (h1 _ (gcdN_dvd.mp (Nat.dvd_refl _)))) (gcdN_dvd.mpr (h2 _ (gcdN_dvd.mp (Nat.dvd_refl _))))
theorem gcdN_mul' {t : Int} : ∀ {l : List Int} {g : Nat}, (l.map (t * ·)).foldl (fun g c => Nat.gcd g c.natAbs) (t.natAbs * g) = t.natAbs * l.foldl (fun g c => Nat.gcd g c.natAbs) g
  | [], _ => rfl
  | c :: l, g => by
    rw [List.map_cons, List.foldl_cons, List.foldl_cons, Int.natAbs_mul, Nat.gcd_mul_left, gcdN_mul']
theorem gcdN_mul {t : Int} {l : List Int} : gcdN (l.map (t * ·)) = t.natAbs * gcdN l := by
  have := gcdN_mul' (t := t) (l := l) (g := 0)
  rwa [Nat.mul_zero] at this
theorem gcdN_le {B : Nat} {l : List Int} (h : ∀ c ∈ l, c.natAbs ≤ B) : gcdN l ≤ B := by
  by_cases h0 : ∀ c ∈ l, c = 0
  · have : gcdN l = 0 := Nat.eq_zero_of_zero_dvd (gcdN_dvd.mpr fun c hc => by rw [h0 c hc]; exact Nat.dvd_refl _)
    omega
  · have : ∃ c ∈ l, c ≠ 0 := Classical.byContradiction fun z => h0 fun c hc => Classical.byContradiction fun w => z ⟨c, hc, w⟩
    obtain ⟨c, hc, hne⟩ := this
    have := Nat.le_of_dvd (by omega) (gcdN_dvd.mp (Nat.dvd_refl (gcdN l)) c hc)
    have := h c hc
    omega
theorem gcdN_div {l : List Int} (h : 0 < gcdN l) : gcdN (l.map fun c => c.fdiv (gcdN l : Int)) = 1 := by
  have e : l = (l.map fun c => c.fdiv (gcdN l : Int)).map ((gcdN l : Int) * ·) := by
    rw [List.map_map]
    refine (List.map_id l).symm.trans (List.map_congr_left fun c hc => ?_)
    have hd : (gcdN l : Int) ∣ c := Int.ofNat_dvd_left.mpr (gcdN_dvd.mp (Nat.dvd_refl _) c hc)
    obtain ⟨q, e⟩ := hd
    show c = (gcdN l : Int) * c.fdiv (gcdN l : Int)
    have : c.fdiv (gcdN l : Int) = q := by
      rw [Int.fdiv_eq_ediv_of_nonneg _ (by omega), e, Int.mul_ediv_cancel_left _ (by omega)]
    rw [this]
    exact e
  have h1 : gcdN l = gcdN l * gcdN (l.map fun c => c.fdiv (gcdN l : Int)) := by
    have := gcdN_mul (t := (gcdN l : Int)) (l := l.map fun c => c.fdiv (gcdN l : Int))
    rw [← e] at this
    exact this
  have h2 : gcdN l * gcdN (l.map fun c => c.fdiv (gcdN l : Int)) = gcdN l * 1 := by omega
  exact Nat.eq_of_mul_eq_mul_left h h2
/-! ### texts -/
def sT (l : List Nat) : Str := ⟨l.toArray⟩
theorem sT_len (l : List Nat) : (sT l).length = l.length := by unfold sT Str.length; simp
theorem sT_app (a b : List Nat) : sT a ++ sT b = sT (a ++ b) := by show Str.append (sT a) (sT b) = _; unfold Str.append sT; simp
theorem sT_inj {a b : List Nat} (h : sT a = sT b) : a = b := by
  have : a.toArray = b.toArray := congrArg Str.cps h
  simpa using this
theorem sT_list (l : List Nat) : (sT l).cps.toList = l := rfl
def abc : List Nat := (List.range 26).map (97 + ·)
theorem gv_mthG {C : Ctx} {Γ : G} {a : E} {es : Es} {m : Mt} {P : R × G → Prop} (h : Gv (ev C a Γ) fun p => mthK m (look p.2 p.1) = true ∧ Gv (evA C es [] p.2) fun q => Gv (look q.2 p.1) fun x => Gv (q.1.mapM (look q.2)) fun ds => Gv (mth m x ds) fun r => P (r, q.2)) : Gv (ev C (.mth m a es) Γ) P := by
  rw [ev]
  exact gv_bind (gv_mono h fun p h => gv_if h.1 (gv_bind (gv_mono h.2 fun q h => gv_bind (gv_mono h fun x h => gv_bind (gv_mono h fun ds h => gv_map h)))))
theorem gv_mth {C : Ctx} {Γ : G} {a : E} {es : Es} {P : R × G → Prop} (h : Gv (ev C a Γ) fun p => Gv (evA C es [] p.2) fun q => Gv (look q.2 p.1) fun x => Gv (q.1.mapM (look q.2)) fun ds => Gv (mth .join x ds) fun r => P (r, q.2)) : Gv (ev C (.mth .join a es) Γ) P := gv_mthG (gv_mono h fun _ h => ⟨rfl, h⟩)
theorem gv_fld {C : Ctx} {Γ : G} {a : E} {c j : Nat} {P : R × G → Prop} (h : Gv (ev C a Γ) fun p => Gv (look p.2 p.1) fun x => Gv (fldD c j x) fun d => P (.val d, p.2)) : Gv (ev C (.fld a c j) Γ) P := by
  rw [ev]
  exact gv_bind (gv_mono h fun p h => gv_bind (gv_mono h fun x h => gv_map h))
theorem gl_fld {c j : Nat} {x d : D} {P : D → Prop} (h : fldD c j x = some d) (p : P d) : Gv (fldD c j x) P := gv_is h p
theorem gv_mcl {C : Ctx} {Γ : G} {a : E} {c f : Nat} {acc : List Bool} {es : Es} {src : List Src} {P : R × G → Prop} (h : Gv (ev C a Γ) fun p => Gv (look p.2 p.1) fun x => isIns c x = true ∧ Gv (accR acc p.2 p.1) fun q => Gv (evA C es acc.tail q.2) fun s => Gv (callT C.ft f src (q.1 :: s.1) s.2) P) : Gv (ev C (.mcl c f acc a es src) Γ) P := by
  rw [ev]
  exact gv_bind (gv_mono h fun p h => gv_bind (gv_mono h fun x h => gv_if h.1 (gv_bind (gv_mono h.2 fun q h => gv_bind (gv_mono h fun s h => h)))))
theorem gt_mcl {C : Ctx} {Γ : G} {a : E} {c f : Nat} {acc : List Bool} {es : Es} {src : List Src} {P : Bool × G → Prop} (h : Gv (ev C a Γ) fun p => Gv (look p.2 p.1) fun x => isIns c x = true ∧ Gv (accR acc p.2 p.1) fun q => Gv (evA C es acc.tail q.2) fun s => Gv (callT C.ft f src (q.1 :: s.1) s.2) fun r => Gv (look r.2 r.1) fun d => Gv (tru d) fun t => P (t, r.2)) : Gv (evT C (.mcl c f acc a es src) Γ) P := by
  rw [evT]
  exact gv_bind (P := P) (gv_bind (gv_mono h fun p h => gv_bind (gv_mono h fun x h => gv_if h.1 (gv_bind (gv_mono h.2 fun q h => gv_bind (gv_mono h fun s h => gv_mono h fun r h => gv_bind (gv_mono h fun d h => gv_map h)))))))
theorem ins_is {c : Nat} {ds : List D} {Q : Prop} (h : Q) : isIns c (.ins c ds) = true ∧ Q := ⟨by simp [isIns], h⟩
theorem gv_mk {C : Ctx} {Γ : G} {c f : Nat} {acc acc2 : List Bool} {es ks : Es} {src : List Src} {P : R × G → Prop} (h : Gv (evA C es acc Γ) fun p => Gv (evA C ks acc2 p.2) fun q => Gv (makeT C.fi c f src (p.1 ++ q.1) q.2) P) : Gv (ev C (.mk c f acc es acc2 ks src) Γ) P := by
  rw [ev]
  exact gv_bind (gv_mono h fun p h => gv_bind (gv_mono h fun q h => h))
theorem makeT_gv {fi : Nat → Sem1} {c f : Nat} {src : List Src} {rs rs' : List R} {Γ Γ2 : G} {is : List In} {P : R × G → Prop} (e1 : pick (.fr (.ins c []) :: rs) src = some rs') (e2 : toIns Γ rs' = some (is, Γ2)) (h : Gv (fi f is) fun q => ∃ ds os, q = (.val .non, .own (.ins c ds) :: os) ∧ P (.fr (.ins c ds), backs rs' is (.own (.ins c ds) :: os) Γ2)) : Gv (makeT fi c f src rs Γ) P := by
  unfold makeT
  rw [e1]
  refine gv_bind (gv_some (gv_bind ?_))
  rw [e2]
  refine gv_some (gv_bind (gv_mono h fun q h => ?_))
  obtain ⟨ds, os, rfl, h⟩ := h
  exact gv_if rfl (gv_some h)
theorem gv_kget {C : Ctx} {Γ : G} {g : Nat} {a : E} {P : R × G → Prop} (h : Gv (ev C a Γ) fun p => ∃ x, p.1 = .val (.str x) ∧ P (.val (kgetD (C.kd g) x), p.2)) : Gv (ev C (.kget g a) Γ) P := by
  rw [ev]
  refine gv_bind (gv_mono h fun p h => ?_)
  obtain ⟨r, Γ1⟩ := p
  obtain ⟨x, e, h⟩ := h
  simp only at e
  subst e
  exact gv_some h
theorem gv_lno {C : Ctx} {Γ : G} {c f : Nat} {a : E} {P : R × G → Prop} (h : Gv (ev C a Γ) fun p => Gv (frz p.2 p.1) fun q => isIns c q.1 = true ∧ Gv (callT C.fi f [.arg 0] [.val q.1] q.2) fun r => Gv (lenI r.1) fun r' => P (r', r.2)) : Gv (ev C (.lno c f a) Γ) P := by
  rw [ev]
  exact gv_bind (gv_mono h fun p h => gv_bind (gv_mono h fun q h => gv_if h.1 (gv_bind (gv_mono h.2 fun r h => gv_map h))))
theorem gs_setf {C : Ctx} {Γ : G} {c j : Nat} {b a : E} {Ps : Fl × G → Prop} (h : Gv (ev C a Γ) fun p => Gv (frz p.2 p.1) fun q => Gv (ev C b q.2) fun rb => ∃ i o o', rb.1 = .loc i ∧ rb.2[i]? = some (.own o) ∧ fldS c j q.1 o = some o' ∧ Ps (.nx, rb.2.set i (.own o'))) : Gv (ex C (.setf b c j a) Γ) Ps := by
  rw [ex]
  refine gv_bind (gv_mono h fun p h => gv_bind (gv_mono h fun q h => gv_bind (gv_mono h fun rb h => ?_)))
  obtain ⟨r, Γ1⟩ := rb
  obtain ⟨i, o, o', e1, e2, e3, h⟩ := h
  simp only at e1
  subst e1
  simp only [e2, e3]
  exact gv_some h
theorem gl_sumT {ns : List Int} {Q : R → Prop} (p : Q (.val (.int ns.sum))) : Gv (bi .sum [.tup (ns.map D.int)]) Q := gl_bi (by show (intsD _).bind _ = _; rw [ints_map]; rfl) p
theorem flats_ints : ∀ fs : List Int, flats (fs.map D.int) = true
  | [] => rfl
  | f :: fs => by show (flat (.int f) && flats (fs.map D.int)) = true; rw [flats_ints fs]; rfl
theorem gl_index {ns : List Int} {m : Int} {Q : R → Prop} (h : m ∈ ns) (p : ∀ k, ns.findIdx? (fun n => n == m) = some k → ns[k]? = some m → Q (.val (.int (k : Nat)))) : Gv (mth .index (.lst (ns.map D.int)) [.int m]) Q := by
  have e0 : ∀ l : List Int, (l.map D.int).findIdx? (fun y => deq y (.int m)) = l.findIdx? fun n => n == m := by
    intro l
    rw [List.findIdx?_map]
    congr
  have hs : (ns.findIdx? fun n => n == m).isSome = true := by
    rw [List.findIdx?_isSome, List.any_eq_true]
    exact ⟨m, h, by simp⟩
  obtain ⟨k, hk⟩ := Option.isSome_iff_exists.mp hs
  refine gv_is (a := R.val (.int (k : Nat))) ?_ (p k hk ?_)
  · show (if flat (.int m) && flats (ns.map D.int) then (idxOfD (.int m) (ns.map D.int)).bind fun j => vl (.int j) else none) = _
    rw [flats_ints]
    show ((ns.map D.int).findIdx? fun y => deq y (.int m)).bind _ = _
    rw [e0, hk]
    rfl
  · obtain ⟨hl, he⟩ := List.findIdx?_eq_some_iff_getElem.mp hk |>.imp fun _ h => h.1
    rw [List.getElem?_eq_getElem hl]
    simpa using he
theorem gi_rng3 {C : Ctx} {Γ : G} {a b c : E} {Q : List D × List Nat × G → Prop} (h : Gv (ev C a Γ) fun p => Gv (ev C b p.2) fun q => Gv (ev C c q.2) fun s => ∃ i j k : Int, p.1 = .val (.int i) ∧ q.1 = .val (.int j) ∧ s.1 = .val (.int k) ∧ (-1000000 < i ∧ i < 1000000 ∧ -1000000 < j ∧ j < 1000000 ∧ 0 < k ∧ k < 1000000) ∧ Q (rangeL i (rng3n i j k) k, [], s.2)) : Gv (evI C (.rng3 a b c) Γ) Q := by
  rw [evI]
  refine gv_bind (gv_mono h fun p h => gv_bind (gv_mono h fun q h => gv_bind (gv_mono h fun s h => ?_)))
  obtain ⟨i, j, k, e1, e2, e3, hc, h⟩ := h
  obtain ⟨p1, p2⟩ := p
  obtain ⟨q1, q2⟩ := q
  obtain ⟨s1, s2⟩ := s
  simp only at e1 e2 e3
  subst e1 e2 e3
  exact gv_if hc (gv_some h)
theorem gl_catS {x y : Str} {P : R → Prop} (h : x.length + y.length ≤ 16777216) (p : P (.val (.str (x ++ y)))) : Gv (bop .Add (.str x) (.str y)) P := gv_is (if_pos h) p
theorem gl_lenS {x : Str} {Q : R → Prop} (h : x.length ≤ 16777216) (p : Q (.val (.int x.length))) : Gv (bi .len [.str x]) Q := gv_is (if_pos h) p
theorem gl_idxS {l : List Nat} {k : Nat} {c : Nat} {Q : D → Prop} (hl : l.length ≤ 16777216) (h : l[k]? = some c) (p : Q (.str (sT [c]))) : Gv (idxD (.str (sT l)) (.int (k : Int))) Q := by
  refine gv_is ?_ p
  have hk := (List.getElem?_eq_some_iff.mp h).1
  show (if (sT l).length ≤ line then ((ixn (sT l).length (k : Int)).bind fun j => (sT l).cps.toList[j]?).map fun c => D.str ⟨#[c]⟩ else none) = _
  rw [if_pos (by rw [sT_len]; exact hl), sT_len, sT_list]
  unfold ixn
  rw [if_pos (Int.natCast_nonneg k), if_pos (by simpa using hk)]
  simp [h]
  rfl
theorem strs_map : ∀ ns : List Str, strsD (ns.map D.str) = some ns
  | [] => rfl
  | n :: ns => by rw [List.map_cons, strsD, strs_map ns]; rfl
theorem join_one : ∀ cs : List Nat, Str.join (sT []) (cs.map fun c => sT [c]) = sT cs
  | [] => rfl
  | [c] => rfl
  | c :: d :: cs => by
    have ih := join_one (d :: cs)
    rw [List.map_cons] at ih
    show sT [c] ++ sT [] ++ Str.join (sT []) (sT [d] :: cs.map fun c => sT [c]) = _
    rw [ih, sT_app, sT_app]
    rfl
theorem gl_joinC {cs : List Nat} {Q : R → Prop} (h : cs.length ≤ 1000000) (p : Q (.val (.str (sT cs)))) : Gv (mth .join (.str (sT [])) [.lst (cs.map fun c => .str (sT [c]))]) Q := by
  refine gv_is ?_ p
  have e : (cs.map fun c => D.str (sT [c])) = (cs.map fun c => sT [c]).map D.str := by rw [List.map_map]; rfl
  show (strsD _).bind _ = _
  rw [e, strs_map]
  show (if ((cs.map fun c => sT [c]).map Str.length).sum + (cs.map fun c => sT [c]).length * (sT []).length ≤ 16777216 then vl (.str (Txt.join (sT []) (cs.map fun c => sT [c]))) else none) = _
  have h1 : ((cs.map fun c => sT [c]).map Str.length).sum = cs.length := by
    rw [List.map_map]
    clear h p e
    induction cs with
    | nil => rfl
    | cons c cs ih => rw [List.map_cons, List.sum_cons, ih, List.length_cons, Nat.add_comm]; rfl
  rw [h1, if_pos (by rw [sT_len]; simp; omega), TL.join_eq, join_one]
  rfl
theorem cutS_lo (l : List Nat) (k : Nat) : cutS (sT l) none (some (k : Int)) = sT (l.take k) := by
  unfold cutS
  rw [HT.sIx_none, HT.sIx_nat, List.drop_zero, Nat.sub_zero, sT_len, sT_list]
  rcases Nat.le_total k l.length with h | h
  · rw [Nat.min_eq_left h]; rfl
  · rw [Nat.min_eq_right h, List.take_length, List.take_of_length_le h]; rfl
theorem cutS_hi (l : List Nat) (k : Nat) : cutS (sT l) (some (k : Int)) none = sT (l.drop k) := by
  unfold cutS
  rw [HT.sIx_none, HT.sIx_nat, sT_len, sT_list]
  rcases Nat.le_total k l.length with h | h
  · rw [Nat.min_eq_left h, List.take_of_length_le (by rw [List.length_drop]; omega)]; rfl
  · rw [Nat.min_eq_right h, List.drop_length, List.drop_of_length_le h, List.take_nil]; rfl
theorem gl_slcSa {l : List Nat} {k : Nat} {P : R → Prop} (h : l.length ≤ 16777216) (p : P (.val (.str (sT (l.take k))))) : Gv (slcD none (some (k : Int)) (.str (sT l))) P := gv_is (by show (if (sT l).length ≤ line then vl (.str (cutS (sT l) none (some (k : Int)))) else none) = _; rw [if_pos (by rw [sT_len]; exact h), cutS_lo]; rfl) p
theorem gl_slcSb {l : List Nat} {k : Nat} {P : R → Prop} (h : l.length ≤ 16777216) (p : P (.val (.str (sT (l.drop (k + 1)))))) : Gv (slcD (some ((k : Int) + 1)) none (.str (sT l))) P := gv_is (by show (if (sT l).length ≤ line then vl (.str (cutS (sT l) (some ((k : Int) + 1)) none)) else none) = _; rw [if_pos (by rw [sT_len]; exact h), show ((k : Int) + 1) = ((k + 1 : Nat) : Int) by omega, cutS_hi]; rfl) p
theorem flats_strs : ∀ fs : List Str, flats (fs.map D.str) = true
  | [] => rfl
  | f :: fs => by show (flat (.str f) && flats (fs.map D.str)) = true; rw [flats_strs fs]; rfl
theorem isIn_strs (x : Str) : ∀ fs : List Str, isIn (.str x) (fs.map D.str) = fs.contains x
  | [] => rfl
  | f :: fs => by
    have ih := isIn_strs x fs
    show (deq (.str f) (.str x) || isIn (.str x) (fs.map D.str)) = _
    rw [ih, List.contains_cons, deq, Bool.beq_comm]
theorem gl_notinS {x : Str} {fs : List Str} {Q : Bool → Prop} (p : Q (!fs.contains x)) : Gv (cop .NotIn (.str x) (.lst (fs.map D.str))) Q := by
  refine gv_is ?_ p
  show (if flat (.str x) && flats (fs.map D.str) then some (!isIn (.str x) (fs.map D.str)) else none) = _
  rw [flats_strs, isIn_strs]
  rfl
theorem gl_sortT {fs : List Str} {Q : R → Prop} (h : fs.length < 64) (p : Q (.fr (.lst ((sortT fs).map D.str)))) : Gv (bi .sorted [.lst (fs.map D.str)]) Q := by
  refine gv_is ?_ p
  show (if (fs.map D.str).length < 64 then (match intsD (fs.map D.str) with
    | some ns => nl ((sortI ns).map .int)
    | none => (strsD (fs.map D.str)).bind fun ys => nl ((sortT ys).map .str)) else none) = _
  rw [if_pos (by rw [List.length_map]; exact h)]
  cases fs with
  | nil =>
    show nl ((sortI []).map D.int) = _
    simp [sortI, sortT]
    rfl
  | cons f fs =>
    show (strsD ((f :: fs).map D.str)).bind _ = _
    rw [strs_map]
    rfl
theorem sub_len {α : Type} [DecidableEq α] : ∀ {l m : List α}, l.Nodup → (∀ x ∈ l, x ∈ m) → l.length ≤ m.length
  | [], _, _, _ => Nat.zero_le _
  | a :: l, m, hn, h => by
    obtain ⟨h1, h2⟩ := List.nodup_cons.mp hn
    have ha := h a List.mem_cons_self
    have ih := sub_len (m := m.erase a) h2 fun x hx => (List.mem_erase_of_ne (fun e => h1 (by rw [← e]; exact hx))).mpr (h x (List.mem_cons_of_mem _ hx))
    rw [List.length_erase_of_mem ha] at ih
    have := List.length_pos_of_mem ha
    rw [List.length_cons]
    omega
/-- an index into a written list -/
theorem gl_pick {xs : List D} {r : Int} {P : D → Prop} (h0 : 0 ≤ r) (h1 : r < xs.length) (h : ∀ x ∈ xs, P x) : Gv (idxD (.lst xs) (.int r)) P := by
  obtain ⟨k, rfl⟩ := Int.eq_ofNat_of_zero_le h0
  have hk : k < xs.length := by omega
  exact gl_idxl (at_nat (List.getElem?_eq_getElem hk)) (h _ (List.getElem_mem hk))
theorem gl_len {ds : List D} {Q : R → Prop} (p : Q (.val (.int ds.length))) : Gv (bi .len [.lst ds]) Q := gv_is rfl p
theorem gl_lenT {ds : List D} {Q : R → Prop} (p : Q (.val (.int ds.length))) : Gv (bi .len [.tup ds]) Q := gv_is rfl p
theorem gl_sum {ns : List Int} {Q : R → Prop} (p : Q (.val (.int ns.sum))) : Gv (bi .sum [.lst (ns.map D.int)]) Q := gl_bi (by show (intsD _).bind _ = _; rw [ints_map]; rfl) p
theorem gl_sum2 {ns : List Int} {c : Int} {Q : R → Prop} (p : Q (.val (.int (c + ns.sum)))) : Gv (bi .sum2 [.lst (ns.map D.int), .int c]) Q := gl_bi (by show (intsD _).bind _ = _; rw [ints_map]; rfl) p
theorem gl_all {bs : List Bool} {Q : R → Prop} (p : Q (.val (.bl (bs.all id)))) : Gv (bi .all [.lst (bs.map D.bl)]) Q := gl_bi (by show (blsD _).bind _ = _; rw [bls_map]; rfl) p
theorem gl_any {bs : List Bool} {Q : R → Prop} (p : Q (.val (.bl (bs.any id)))) : Gv (bi .any [.lst (bs.map D.bl)]) Q := gl_bi (by show (blsD _).bind _ = _; rw [bls_map]; rfl) p
theorem len_map {α : Type} (f : α → D) (xs : List α) : ((xs.map f).length : Int) = xs.length := by rw [List.length_map]
/-! ### what the draws' laws share, called -/
theorem take_c {C : Ctx} {f : Nat} {src : List Src} {rs rs' : List R} {Γ Γ2 : G} {n m : Int} {o : OD} {P : R × G → Prop} (e1 : pick rs src = some rs') (e2 : toIns Γ rs' = some ([.own o, .val (.int m)], Γ2)) (hT : TakeS (C.ft f)) (h : Pl n o) (hm : 0 < m) (hms : Small m) (hn : n ≤ 1000000000000)
    (k : ∀ r o', 0 ≤ r → r < m → Pl (n + 1) o' → P (.val (.int r), backs rs' [.own o, .val (.int m)] [.own o', .non] Γ2)) : Gv (callT C.ft f src rs Γ) P := by
  refine callT_gv e1 e2 (gv_mono (hT n m o h hm hms hn) ?_)
  rintro _ ⟨r, o', rfl, h1, h2, h3⟩
  exact k r o' h1 h2 h3
def PoolS (f : Sem1) : Prop := ∀ (ns : List Int) (k : Nat), k < ns.length → k ≤ 1000 → Gv (f [.val (.lst (ns.map D.int)), .val (.int k)]) fun q => ∃ o, q.1 = .fr o ∧ Pl (7919 * k + 1) o
def FoldS (f : Sem1) : Prop := ∀ (ns : List Int) (t : Int), 0 < t → t ≤ 1000 → Gv (f [.val (.scr (ns.map D.int)), .val (.int t)]) fun q => ∃ cs : List Int, q.1 = .fr (.lst (cs.map D.int)) ∧ cs.length ≤ t.toNat
theorem backs_vv {a b : D} {is : List In} {os : List Out} {Γ : G} : backs [.val a, .val b] is os Γ = Γ := by
  rcases is with _ | ⟨i, _ | ⟨j, is⟩⟩ <;> rcases os with _ | ⟨o, _ | ⟨p, os⟩⟩ <;> rfl
theorem ex_int {i : Int} {P : Int → Prop} (h : P i) : ∃ j, R.val (.int i) = R.val (.int j) ∧ P j := ⟨i, rfl, h⟩
theorem ex_bl {i : Bool} {P : Bool → Prop} (h : P i) : ∃ j, R.val (.bl i) = R.val (.bl j) ∧ P j := ⟨i, rfl, h⟩
theorem rng_i {i : Int} {Q : Prop} (h1 : -4611686018427387904 ≤ i) (h2 : i ≤ 16777216) (h : Q) : -4611686018427387904 ≤ i ∧ i ≤ 16777216 ∧ Q := ⟨h1, h2, h⟩
theorem len_rng {w : Nat} {Q : Prop} (h1 : w ≤ 16777216) (h : Q) : (rangeL 0 (w : Int).toNat 1).length ≤ line ∧ Q := ⟨by rw [range_len]; exact h1, h⟩
theorem len_lst {α : Type} {f : α → D} {xs : List α} {Q : Prop} (h1 : xs.length ≤ 16777216) (h : Q) : (xs.map f).length ≤ line ∧ Q := ⟨by rw [List.length_map]; exact h1, h⟩
theorem gl_walk {d : D} {ds : List D} {Q : List D → Prop} (h : walked d = some ds) (p : Q ds) : Gv (walked d) Q := gv_is h p
theorem gl_items {d : D} {ds : List D} {Q : List D → Prop} (h : items d = some ds) (p : Q ds) : Gv (items d) Q := gv_is h p
theorem gl_isT {d : D} {ts : List Ty} {bs : List Bool} {Q : List Bool → Prop} (h : ts.mapM (isTy d) = some bs) (p : Q bs) : Gv (ts.mapM (isTy d)) Q := gv_is h p
theorem gl_ty {d : D} {t : Ty} {b : Bool} {Q : Bool → Prop} (h : isTy d t = some b) (p : Q b) : Gv (isTy d t) Q := gv_is h p
theorem gv_isi1 {C : Ctx} {Γ : G} {a : E} {t : Ty} {P : R × G → Prop} (h : Gv (ev C a Γ) fun p => Gv (look p.2 p.1) fun x => Gv (isTy x t) fun b => P (.val (.bl b), p.2)) : Gv (ev C (.isi a [t]) Γ) P := by
  refine gv_isi (gv_mono h fun p h => gv_mono h fun x h => ?_)
  obtain ⟨b, e, h⟩ := h
  exact gv_is (a := [b]) (by simp [List.mapM_cons, e]) (by simpa using h)
theorem gt_isi1 {C : Ctx} {Γ : G} {a : E} {t : Ty} {Pb : Bool × G → Prop} (h : Gv (ev C a Γ) fun p => Gv (look p.2 p.1) fun x => Gv (isTy x t) fun b => Pb (b, p.2)) : Gv (evT C (.isi a [t]) Γ) Pb := by
  refine gt_isi (gv_mono h fun p h => gv_mono h fun x h => ?_)
  obtain ⟨b, e, h⟩ := h
  exact gv_is (a := [b]) (by simp [List.mapM_cons, e]) (by simpa using h)
theorem gl_map1 {r : R} {Γ : G} {d : D} {Q : List D → Prop} (h : look Γ r = some d) (p : Q [d]) : Gv ([r].mapM (look Γ)) Q := gv_is (by simp [List.mapM_cons, h]) p
theorem gl_map2 {r s : R} {Γ : G} {d e : D} {Q : List D → Prop} (h : look Γ r = some d) (g : look Γ s = some e) (p : Q [d, e]) : Gv ([r, s].mapM (look Γ)) Q := gv_is (by simp [List.mapM_cons, h, g]) p
theorem gl_slc1T {x : D} {xs : List D} {P : R → Prop} (p : P (.val (.tup xs))) : Gv (slcD (some 1) none (.tup (x :: xs))) P := gv_is (by show vl (.tup (cutD (x :: xs) (some ((1 : Nat) : Int)) none)) = _; rw [cut_hi]; rfl) p
theorem gl_slc1L {x : D} {xs : List D} {P : R → Prop} (p : P (.fr (.lst xs))) : Gv (slcD (some 1) none (.lst (x :: xs))) P := gv_is (by show nl (cutD (x :: xs) (some ((1 : Nat) : Int)) none) = _; rw [cut_hi]; rfl) p
theorem gl_slcTa {k : Nat} {xs : List D} {P : R → Prop} (p : P (.val (.tup (xs.take k)))) : Gv (slcD none (some (k : Int)) (.tup xs)) P := gv_is (by show vl (.tup (cutD xs none (some (k : Int)))) = _; rw [cut_lo]; rfl) p
theorem gl_slcTb {k : Nat} {xs : List D} {P : R → Prop} (p : P (.val (.tup (xs.drop (k + 1))))) : Gv (slcD (some ((k : Int) + 1)) none (.tup xs)) P := gv_is (by show vl (.tup (cutD xs (some ((k : Int) + 1)) none)) = _; rw [show ((k : Int) + 1) = ((k + 1 : Nat) : Int) by omega, cut_hi]; rfl) p
theorem gl_slcLa {k : Nat} {xs : List D} {P : R → Prop} (p : P (.fr (.lst (xs.take k)))) : Gv (slcD none (some (k : Int)) (.lst xs)) P := gv_is (by show nl (cutD xs none (some (k : Int))) = _; rw [cut_lo]; rfl) p
theorem gl_slcLb {k : Nat} {xs : List D} {P : R → Prop} (p : P (.fr (.lst (xs.drop (k + 1))))) : Gv (slcD (some ((k : Int) + 1)) none (.lst xs)) P := gv_is (by show nl (cutD xs (some ((k : Int) + 1)) none) = _; rw [show ((k : Int) + 1) = ((k + 1 : Nat) : Int) by omega, cut_hi]; rfl) p
theorem gl_catL {xs ys : List D} {P : R → Prop} (h : xs.length + ys.length ≤ 16777216) (p : P (.fr (.lst (xs ++ ys)))) : Gv (bop .Add (.lst xs) (.lst ys)) P := gl_cat h p
theorem gl_catU {xs ys : List D} {P : R → Prop} (h : xs.length + ys.length ≤ 16777216) (p : P (.val (.tup (xs ++ ys)))) : Gv (bop .Add (.tup xs) (.tup ys)) P := gl_catT h p
theorem gl_cop {o : CmpOp} {x y : D} {b : Bool} {Q : Bool → Prop} (h : cop o x y = some b) (p : Q b) : Gv (cop o x y) Q := gv_is h p
theorem gl_eqP {a b : D} {Q : Bool → Prop} (h1 : plain a = true) (h2 : plain b = true) (p : Q (deq a b)) : Gv (cop .Eq a b) Q := gv_is (by show (if (scl a b || (plain a && plain b)) = true then some (deq a b) else none) = _; rw [h1, h2, Bool.and_true, Bool.or_true, if_pos rfl]) p
theorem gl_neP {a b : D} {Q : Bool → Prop} (h1 : plain a = true) (h2 : plain b = true) (p : Q (!deq a b)) : Gv (cop .NotEq a b) Q := gv_is (by show (if (scl a b || (plain a && plain b)) = true then some (!deq a b) else none) = _; rw [h1, h2, Bool.and_true, Bool.or_true, if_pos rfl]) p
theorem plains_ints (n : Nat) : ∀ vs : List Int, plainsN n (vs.map D.int) = true
  | [] => by cases n <;> rfl
  | v :: vs => by rw [List.map_cons, plainsN, plains_ints n vs]; cases n <;> rfl
theorem plain_tup {vs : List Int} : plain (.tup (vs.map D.int)) = true := by show plainN (59 + 1) _ = true; rw [plainN]; exact plains_ints 59 vs
theorem plain_lst {vs : List Int} : plain (.lst (vs.map D.int)) = true := by show plainN (59 + 1) _ = true; rw [plainN]; exact plains_ints 59 vs
theorem sum_dot (c : Int) (cs vs : List Int) : c + (List.zipWith (· * ·) cs vs).sum = worthV (c :: cs) vs := rfl
/-! ### a text shown -/
section
open PySem PySem.Spec L2
theorem quote_two (x : Str) : reprQuote x = 39 ∨ reprQuote x = 34 := by
  unfold reprQuote
  split <;> simp
theorem char_len : ∀ c < 128, (Builtin.Str.reprChar 39 c).length ≤ 4 ∧ (Builtin.Str.reprChar 34 c).length ≤ 4 := by decide +kernel
theorem foldl_len {q : Nat} (hq : q = 39 ∨ q = 34) : ∀ (cs : List Nat) (a : Array Nat), (∀ c ∈ cs, c < 128) → (cs.foldl (fun out c => out ++ (Builtin.Str.reprChar q c).toArray) a).size ≤ a.size + 4 * cs.length
  | [], a, _ => by simp
  | c :: cs, a, h => by
    have ih := foldl_len hq cs (a ++ (Builtin.Str.reprChar q c).toArray) fun x hx => h x (List.mem_cons_of_mem _ hx)
    have hc := char_len c (h c List.mem_cons_self)
    have : (Builtin.Str.reprChar q c).length ≤ 4 := by rcases hq with rfl | rfl; exact hc.1; exact hc.2
    rw [List.foldl_cons, List.length_cons]
    have e : (Builtin.Str.reprChar q c).toArray.size = (Builtin.Str.reprChar q c).length := List.size_toArray
    rw [Array.size_append, e] at ih
    omega
theorem RO.str {k : Nat} {cs : List Nat} (h : ∀ c ∈ cs, c < 128) : RO k (4 * cs.length + 2) (.str (sT cs)) := by
  refine ⟨?_, rfl, ?_⟩
  · cases k <;> (rw [plainN]; simp only [sT, List.all_toArray, List.all_eq_true, decide_eq_true_eq]; intro c hc; have := h c hc; omega)
  · show (PyData.shown (.str (sT cs))).length ≤ _
    rw [PyData.shown]
    show ((Array.foldl _ #[reprQuote (sT cs)] cs.toArray).push _).size ≤ _
    rw [Array.size_push, List.foldl_toArray]
    have := foldl_len (quote_two (sT cs)) cs #[reprQuote (sT cs)] h
    have e : (#[reprQuote (sT cs)] : Array Nat).size = 1 := rfl
    omega
end
end Mi

namespace Mi
open PySem L2
theorem if_f {p q : Prop} {b : Bool} (e : b = false) (h : q) : (if (b = true) then p else q) := by rw [e, if_neg (by decide)]; exact h
theorem if_t {p q : Prop} {b : Bool} (e : b = true) (h : p) : (if (b = true) then p else q) := by rw [e, if_pos rfl]; exact h
theorem enu_gen {α : Type} (f : α → D) : ∀ (xs : List α) (k : Nat), enuD k (xs.map f) = (xs.zipIdx k).map fun p => .tup [.int (p.2 : Int), f p.1]
  | [], _ => rfl
  | x :: xs, k => by rw [List.map_cons, enuD, enu_gen f xs (k + 1), List.zipIdx_cons, List.map_cons]
theorem RO.itemsS {k : Nat} {f : D → Nat} : ∀ {ds : List D}, (∀ d ∈ ds, RO k (f d) d) → plainsN k ds = true ∧ PyData.showableAll (pysOf ds) = true ∧ ((PyData.shownAll (pysOf ds)).map (·.length)).sum ≤ (ds.map f).sum ∧ (PyData.shownAll (pysOf ds)).length = ds.length
  | [], _ => by cases k <;> exact ⟨rfl, rfl, Nat.le_refl _, rfl⟩
  | d :: ds, h => by
    obtain ⟨h1, h2, h3, h4⟩ := RO.itemsS (ds := ds) fun x hx => h x (List.mem_cons_of_mem _ hx)
    have hd := h d List.mem_cons_self
    have hl := hd.len
    refine ⟨by rw [plainsN, hd.pl, h1]; rfl, by rw [pysOf, PyData.showableAll, hd.sh, h2]; rfl, ?_, by rw [pysOf, PyData.shownAll, List.length_cons, List.length_cons, h4]⟩
    rw [pysOf, PyData.shownAll, List.map_cons, List.sum_cons, List.map_cons, List.sum_cons]
    omega
theorem RO.lstS {k : Nat} {f : D → Nat} {ds : List D} (h : ∀ d ∈ ds, RO k (f d) d) : RO (k + 1) ((ds.map f).sum + 2 * ds.length + 3) (.lst ds) := by
  obtain ⟨h1, h2, h3, h4⟩ := RO.itemsS h
  refine ⟨by rw [plainN]; exact h1, h2, ?_⟩
  have := listText_len_le (PyData.shownAll (pysOf ds))
  show (listText (PyData.shownAll (pysOf ds))).length ≤ _
  rw [h4] at this
  omega
theorem RO.tupS {k : Nat} {f : D → Nat} {ds : List D} (h : ∀ d ∈ ds, RO k (f d) d) : RO (k + 1) ((ds.map f).sum + 2 * ds.length + 3) (.tup ds) := by
  obtain ⟨h1, h2, h3, h4⟩ := RO.itemsS h
  refine ⟨by rw [plainN]; exact h1, h2, ?_⟩
  have := tupleText_len_le (PyData.shownAll (pysOf ds))
  show (tupleText (PyData.shownAll (pysOf ds))).length ≤ _
  rw [h4] at this
  omega
theorem gv_kgd {C : Ctx} {Γ : G} {g : Nat} {a : E} {d : D} {P : R × G → Prop} (h : Gv (ev C a Γ) fun p => ∃ x, p.1 = .val (.str x) ∧ P (.val ((kfind (C.kd g) x).getD d), p.2)) : Gv (ev C (.kgd g a d) Γ) P := by
  rw [ev]
  refine gv_bind (gv_mono h fun p h => ?_)
  obtain ⟨r, Γ1⟩ := p
  obtain ⟨x, e, h⟩ := h
  simp only at e
  subst e
  exact gv_some h
theorem gt_kin {C : Ctx} {Γ : G} {g : Nat} {n : Bool} {a : E} {P : Bool × G → Prop} (h : Gv (ev C a Γ) fun p => ∃ x, p.1 = .val (.str x) ∧ P (n != (kfind (C.kd g) x).isSome, p.2)) : Gv (evT C (.kin g n a) Γ) P := by
  rw [evT]
  refine gv_bind (gv_mono h fun p h => ?_)
  obtain ⟨r, Γ1⟩ := p
  obtain ⟨x, e, h⟩ := h
  simp only at e
  subst e
  exact gv_some h
theorem gv_dget {C : Ctx} {Γ : G} {a k : E} {d : D} {P : R × G → Prop} (h : Gv (ev C a Γ) fun p => isDicO (look p.2 p.1) = true ∧ Gv (ev C k p.2) fun q => Gv (look q.2 p.1) fun x => Gv (look q.2 q.1) fun y => Gv (dgetD x y d) fun z => P (.val z, q.2)) : Gv (ev C (.dget a k d) Γ) P := by
  rw [ev]
  refine gv_bind (gv_mono h fun p h => ?_)
  obtain ⟨h1, h2⟩ := h
  dsimp only
  rw [if_pos h1]
  exact gv_bind (gv_mono h2 fun q h => gv_bind (gv_mono h fun x h => gv_bind (gv_mono h fun y h => gv_map h)))
theorem gv_trev {C : Ctx} {Γ : G} {a : E} {P : R × G → Prop} (h : Gv (ev C a Γ) fun p => ∃ xs, look p.2 p.1 = some (.tup xs) ∧ P (.val (.tup xs.reverse), p.2)) : Gv (ev C (.trev a) Γ) P := by
  rw [ev]
  refine gv_bind (gv_mono h fun p h => ?_)
  obtain ⟨xs, e, h⟩ := h
  obtain ⟨r, Γ1⟩ := p
  simp only at e h
  simp only [e]
  exact gv_some h
/-- the places that a slice takes -/
def ixs (lo hi : Option Int) (k : Int) (n : Nat) : List Nat := sliceRange (sliceBounds lo hi (some k) n).1 (sliceBounds lo hi (some k) n).2.1 (sliceBounds lo hi (some k) n).2.2
def pickL {α : Type} (l : List Nat) (xs : List α) : List α := l.filterMap (xs[·]?)
theorem step_map {α : Type} (f : α → D) (xs : List α) (lo hi : Option Int) (k : Int) : stepD (xs.map f) lo hi k = (pickL (ixs lo hi k xs.length) xs).map f := by
  unfold stepD ixs pickL
  rw [List.length_map]
  generalize (sliceRange (sliceBounds lo hi (some k) xs.length).1 (sliceBounds lo hi (some k) xs.length).2.1 (sliceBounds lo hi (some k) xs.length).2.2) = l
  induction l with
  | nil => rfl
  | cons i l ih =>
    rw [List.filterMap_cons, List.filterMap_cons, List.getElem?_map]
    cases xs[i]? with
    | none => exact ih
    | some n => rw [Option.map_some, ih]; rfl
theorem pickL_mem {α : Type} {l : List Nat} {xs : List α} {x : α} (h : x ∈ pickL l xs) : x ∈ xs := by
  obtain ⟨i, _, e⟩ := List.mem_filterMap.mp h
  exact List.mem_of_getElem? e
theorem pickL_len {α : Type} {xs : List α} : ∀ {l : List Nat}, (∀ i ∈ l, i < xs.length) → (pickL l xs).length = l.length
  | [], _ => rfl
  | i :: l, h => by
    have hi := h i List.mem_cons_self
    have ih := pickL_len (l := l) fun j hj => h j (List.mem_cons_of_mem _ hj)
    unfold pickL at *
    rw [List.filterMap_cons, List.getElem?_eq_getElem hi]
    show (_ :: _).length = _
    rw [List.length_cons, ih, List.length_cons]
theorem gl_slx {α : Type} {f : α → D} {xs : List α} {lo hi : Option Int} {k : Int} {P : R → Prop} (hk : k ≠ 0) (p : P (.fr (.lst ((pickL (ixs lo hi k xs.length) xs).map f)))) : Gv (slxD lo hi k (.lst (xs.map f))) P := by
  refine gv_is ?_ p
  show (if k ≠ 0 then nl (stepD (xs.map f) lo hi k) else none) = _
  rw [if_pos hk, step_map]
  rfl
theorem gl_pickT {xs : List D} {r : Int} {P : D → Prop} (h0 : 0 ≤ r) (h1 : r < xs.length) (h : ∀ x ∈ xs, P x) : Gv (idxD (.tup xs) (.int r)) P := by
  obtain ⟨k, rfl⟩ := Int.eq_ofNat_of_zero_le h0
  have hk : k < xs.length := by omega
  exact gl_idxt (at_nat (List.getElem?_eq_getElem hk)) (h _ (List.getElem_mem hk))
mutual
theorem plain_up : ∀ (n : Nat) (d : D), plainN n d = true → plainN (n + 1) d = true
  | _, .non, _ => by rw [plainN]
  | _, .bl _, _ => by rw [plainN]
  | _, .int _, _ => by rw [plainN]
  | n, .str x, h => by cases n <;> (rw [plainN] at h ⊢; exact h)
  | n + 1, .lst xs, h => by rw [plainN] at h ⊢; exact plains_up n xs h
  | n + 1, .scr xs, h => by rw [plainN] at h ⊢; exact plains_up n xs h
  | n + 1, .tup xs, h => by rw [plainN] at h ⊢; exact plains_up n xs h
  | 0, .lst xs, h => by unfold plainN at h; cases h
  | 0, .scr xs, h => by unfold plainN at h; cases h
  | 0, .tup xs, h => by unfold plainN at h; cases h
  | 0, .dic ks xs, h => by unfold plainN at h; cases h
  | n + 1, .dic ks xs, h => by unfold plainN at h; cases h
  | 0, .ins ks xs, h => by unfold plainN at h; cases h
  | n + 1, .ins ks xs, h => by unfold plainN at h; cases h
theorem plains_up : ∀ (n : Nat) (xs : List D), plainsN n xs = true → plainsN (n + 1) xs = true
  | n, [], _ => by cases n <;> rfl
  | n, x :: xs, h => by
    rw [plainsN, Bool.and_eq_true] at h ⊢
    exact ⟨plain_up n x h.1, plains_up n xs h.2⟩
end
theorem RO.next {k n : Nat} {d : D} (h : RO k n d) : RO (k + 1) n d := ⟨plain_up k d h.pl, h.sh, h.len⟩
theorem RO.up {n : Nat} {d : D} (h : RO 58 n d) : RO 60 n d := h.next.next
theorem RO.upL {n : Nat} {d : D} (h : RO 59 n d) : RO 60 n d := h.next
theorem gl_dget {x y d z : D} {P : D → Prop} (h : dgetD x y d = some z) (p : P z) : Gv (dgetD x y d) P := gv_is h p
theorem gl_repT {z : Int} {k : Nat} {P : R → Prop} (h1 : 1 ≤ k) (h : k ≤ 1000) (p : P (.val (.tup ((List.replicate k z).map D.int)))) : Gv (bop .Mult (.tup [.int z]) (.int (k : Int))) P := by
  refine gv_is ?_ p
  show (if [D.int z].isEmpty = false ∧ 1 ≤ (k : Int) ∧ (k : Int) ≤ 1000 ∧ [D.int z].length ≤ 1000 then vl (.tup (List.replicate (k : Int).toNat [D.int z]).flatten) else none) = _
  rw [if_pos ⟨rfl, by omega, by omega, by simp⟩, Int.toNat_natCast, rep_flat]
  rfl
theorem gl_cutT {xs : List D} {a b : Nat} {P : R → Prop} (e : cutD xs (some (a : Int)) (some (b : Int)) = (xs.drop a).take (b - a)) (p : P (.val (.tup ((xs.drop a).take (b - a))))) : Gv (slcD (some (a : Int)) (some (b : Int)) (.tup xs)) P := gv_is (by show vl (.tup (cutD xs (some (a : Int)) (some (b : Int)))) = _; rw [e]; rfl) p
theorem gl_ext {C : Ctx} {Γ : G} {i : Nat} {xs : List D} {es : Es} {P : R × G → Prop} (h0 : Γ[i]? = some (.own (.lst xs))) (h : Gv (evF C es Γ) fun q => ∃ zs ys, q.1 = [.lst zs] ∧ q.2[i]? = some (.own (.lst ys)) ∧ ys.length + zs.length ≤ 16777216 ∧ P (.val .non, q.2.set i (.own (.lst (ys ++ zs))))) : Gv (ev C (.mmt .extend (.var i) es) Γ) P := by
  refine gv_mmt (gv_var (r := .loc i) (by unfold geti; rw [h0]) ⟨xs, i, rfl, by show look Γ (.loc i) = _; simp [look, h0, OD.d], gv_mono h fun q h => ?_⟩)
  obtain ⟨zs, ys, e1, e2, e3, p⟩ := h
  refine ⟨.lst ys, .non, .lst (ys ++ zs), e2, ?_, p⟩
  rw [e1]
  show (if ys.length + zs.length ≤ line then some (D.non, OD.lst (ys ++ zs)) else none) = _
  rw [if_pos e3]
/-- the sum of what stands at one place -/
theorem sum_zipIdx (j : Nat) : ∀ (l : List Int) (k : Nat), ((l.zipIdx k).map fun p => if p.2 = j then p.1 else 0).sum = if k ≤ j then l.getD (j - k) 0 else 0
  | [], k => by simp
  | x :: l, k => by
    rw [List.zipIdx_cons, List.map_cons, List.sum_cons, sum_zipIdx j l (k + 1)]
    by_cases h : k = j
    · subst h
      rw [if_pos rfl, if_neg (by omega), if_pos (Nat.le_refl _), Nat.sub_self]
      simp
    · rw [if_neg h]
      by_cases g : k ≤ j
      · rw [if_pos (by omega), if_pos g, show j - k = (j - (k + 1)) + 1 by omega, List.getD_cons_succ]
        omega
      · rw [if_neg (by omega), if_neg g]
        rfl
theorem sum_zero {α : Type} {f : α → Int} : ∀ {l : List α}, (∀ x ∈ l, f x = 0) → (l.map f).sum = 0
  | [], _ => rfl
  | x :: l, h => by rw [List.map_cons, List.sum_cons, h x List.mem_cons_self, sum_zero fun y hy => h y (List.mem_cons_of_mem _ hy)]; rfl
end Mi

namespace Lk12
open Mi PySem PySem.Spec L2
open PyProof.Rows hiding St
/-- the defs as terms -/
def b0 : Ss := (.cons (.whl (.con (.bl true)) (.cons .pas
    .nil))
    .nil)
def b1 : Ss := (.cons (.ife (.or_ (.not_ (.isi (.var 0) [.int])) (.isi (.var 0) [.bool])) (.cons (.ret (.con (.bl false)))
    .nil) .nil)
    (.cons (.ife (.and_ (.cmp .IsNot (.var 1) (.con .non)) (.cmp .Lt (.var 0) (.var 1))) (.cons (.ret (.con (.bl false)))
    .nil) .nil)
    (.cons (.ret (.or_ (.cmp .Is (.var 2) (.con .non)) (.cmp .LtE (.var 0) (.var 2))))
    .nil)))
def b2 : Ss := (.cons (.ife (.or_ (.not_ (.isi (.var 0) [.str])) (.not_ (.chn .LtE .LtE (.con (.int 1)) (.bi .len (.cons (.var 0) .nil)) (.glb 2)))) (.cons (.ret (.con (.bl false)))
    .nil) .nil)
    (.cons (.ret (.bi .all (.cons (.cpr [1] (.nm 1) (.seq (.var 0)) .non (.cmp .In (.var 1) (.glb 1))) .nil)))
    .nil))
def b3 : Ss := (.cons (.ife (.or_ (.not_ (.isi (.var 0) [.tuple])) (.or_ (.cmp .Gt (.bi .len (.cons (.var 0) .nil)) (.var 1)) (.not_ (.bi .all (.cons (.cpr [4] (.nm 4) (.seq (.var 0)) .non (.cal 2 [false] (.cons (.var 4) .nil) [] .nil [.arg 0])) .nil))))) (.cons (.ret (.con (.bl false)))
    .nil) .nil)
    (.cons (.ret (.bi .all (.cons (.cpr [2, 3] (.tup [(.nm 2), (.nm 3)]) (.zip (.var 0) (.slc (.var 0) (.som (.con (.int 1))) .non)) .non (.cmp .Lt (.var 2) (.var 3))) .nil)))
    .nil))
def b4 : Ss := (.cons (.ife (.cmp .Eq (.var 2) (.con (.int 0))) (.cons (.ret (.con (.int 0)))
    .nil) .nil)
    (.cons (.ife (.isi (.var 1) [.str]) (.cons (.ret (.ite (.cmp .In (.var 1) (.mcl 0 38 [false] (.var 0) .nil [.arg 0])) (.con (.int 1)) (.con (.int 0))))
    .nil) .nil)
    (.cons (.ife (.or_ (.not_ (.isi (.var 1) [.tuple])) (.cmp .Eq (.var 1) (.tup .nil))) (.cons (.ret (.con (.int 0)))
    .nil) .nil)
    (.cons (.asg (.star [4] 5) (.var 1))
    (.cons (.ife (.or_ (.not_ (.isi (.var 4) [.str])) (.cmp .NotEq (.kget 0 (.var 4)) (.bi .len (.cons (.var 5) .nil)))) (.cons (.ret (.con (.int 0)))
    .nil) .nil)
    (.cons (.asg (.nm 3) (.cpr [6] (.nm 6) (.seq (.var 5)) .non (.cal 4 [false, false, false] (.cons (.var 0) (.cons (.var 6) (.cons (.bin .Sub (.var 2) (.con (.int 1))) .nil))) [] .nil [.arg 0, .arg 1, .arg 2])))
    (.cons (.ret (.ite (.cmp .In (.con (.int 0)) (.var 3)) (.con (.int 0)) (.bin .Add (.con (.int 1)) (.bi .sum (.cons (.var 3) .nil)))))
    .nil)))))))
def b5 : Ss := (.cons (.ret (.chn .Lt .LtE (.con (.int 0)) (.cal 4 [false, false, false] (.cons (.var 0) (.cons (.var 1) (.cons (.glb 3) .nil))) [] .nil [.arg 0, .arg 1, .arg 2]) (.glb 4)))
    .nil)
def b6 : Ss := (.cons (.ife (.isi (.var 2) [.str]) (.cons (.ret (.mcl 0 39 [false, false, false] (.var 0) (.cons (.var 1) (.cons (.var 2) .nil)) [.arg 0, .arg 1, .arg 2]))
    .nil) .nil)
    (.cons (.asg (.star [4] 7) (.var 2))
    (.cons (.asg (.nm 3) (.cpr [8] (.nm 8) (.seq (.var 7)) .non (.cal 6 [false, false, false] (.cons (.var 0) (.cons (.var 1) (.cons (.var 8) .nil))) [] .nil [.arg 0, .arg 1, .arg 2])))
    (.cons (.ife (.cmp .Eq (.var 4) (.con (.str "not"))) (.cons (.ret (.not_ (.idx (.var 3) (.con (.int 0)))))
    .nil) .nil)
    (.cons (.ife (.cmp .In (.var 4) (.tup (.cons (.con (.str "all")) (.cons (.con (.str "none")) .nil)))) (.cons (.ret (.cmp .Eq (.var 4) (.con (.str "all"))))
    .nil) .nil)
    (.cons (.asg (.tup [(.nm 5), (.nm 6)]) (.var 3))
    (.cons (.ife (.cmp .Eq (.var 4) (.con (.str "or"))) (.cons (.ret (.or_ (.var 5) (.var 6)))
    .nil) .nil)
    (.cons (.ret (.and_ (.var 5) (.ite (.cmp .Eq (.var 4) (.con (.str "and"))) (.var 6) (.not_ (.var 6)))))
    .nil))))))))
def b7 : Ss := (.cons (.ret (.cpr [2] (.nm 2) (.rng1 (.mcl 0 34 [false] (.var 0) .nil [.arg 0])) (.som (.cal 6 [false, false, false] (.cons (.var 0) (.cons (.var 2) (.cons (.var 1) .nil))) [] .nil [.arg 0, .arg 1, .arg 2])) (.var 2)))
    .nil)
def b8 : Ss := (.cons (.asg (.nm 2) (.con .non))
    (.cons (.for_ (.nm 3) (.seq (.mcl 0 38 [false] (.var 0) .nil [.arg 0])) (.cons (.asg (.nm 4) (.ite (.mcl 0 39 [false, false, false] (.var 0) (.cons (.var 1) (.cons (.var 3) .nil)) [.arg 0, .arg 1, .arg 2]) (.var 3) (.tup (.cons (.con (.str "not")) (.cons (.var 3) .nil)))))
    (.cons (.asg (.nm 2) (.ite (.cmp .Is (.var 2) (.con .non)) (.var 4) (.tup (.cons (.con (.str "and")) (.cons (.var 2) (.cons (.var 4) .nil))))))
    .nil)))
    (.cons (.ret (.var 2))
    .nil)))
def b9 : Ss := (.cons (.for_ (.nm 2) (.seq (.var 1)) (.cons (.ife (.not_ (.cal 1 [false] (.cons (.var 2) .nil) [false, false] (.cons (.con (.int 0)) (.cons (.bin .Sub (.mcl 0 34 [false] (.var 0) .nil [.arg 0]) (.con (.int 1))) .nil)) [.arg 0, .arg 1, .arg 2])) (.cons .bad
    .nil) .nil)
    .nil))
    (.cons (.asg (.nm 3) (.cpr [2] (.nm 2) (.rng1 (.mcl 0 34 [false] (.var 0) .nil [.arg 0])) (.som (.cmp .In (.var 2) (.var 1))) (.var 2)))
    (.cons (.ife (.cmp .In (.bi .len (.cons (.var 3) .nil)) (.tup (.cons (.con (.int 0)) (.cons (.mcl 0 34 [false] (.var 0) .nil [.arg 0]) .nil)))) (.cons (.ret (.ite (.var 3) (.tup (.cons (.con (.str "all")) .nil)) (.tup (.cons (.con (.str "none")) .nil))))
    .nil) .nil)
    (.cons (.asg (.nm 4) (.cal 8 [false, false] (.cons (.var 0) (.cons (.idx (.var 3) (.con (.int 0))) .nil)) [] .nil [.arg 0, .arg 1]))
    (.cons (.for_ (.nm 2) (.seq (.slc (.var 3) (.som (.con (.int 1))) .non)) (.cons (.asg (.nm 4) (.tup (.cons (.con (.str "or")) (.cons (.var 4) (.cons (.cal 8 [false, false] (.cons (.var 0) (.cons (.var 2) .nil)) [] .nil [.arg 0, .arg 1]) .nil)))))
    .nil))
    (.cons (.ret (.var 4))
    .nil))))))
def b10 : Ss := (.cons (.ife (.or_ (.not_ (.isi (.var 1) [.tuple])) (.cmp .NotIn (.bi .len (.cons (.var 1) .nil)) (.tup (.cons (.con (.int 2)) (.cons (.con (.int 3)) .nil))))) (.cons (.ret (.con (.bl false)))
    .nil) .nil)
    (.cons (.ife (.or_ (.not_ (.isi (.idx (.var 1) (.con (.int 0))) [.str])) (.not_ (.cal 1 [false] (.cons (.idx (.var 1) (.con (.int 1))) .nil) [] .nil [.arg 0, .con .non, .con .non]))) (.cons (.ret (.con (.bl false)))
    .nil) .nil)
    (.cons (.ife (.cmp .Eq (.bi .len (.cons (.var 1) .nil)) (.con (.int 2))) (.cons (.ret (.cmp .Eq (.idx (.var 1) (.con (.int 0))) (.con (.str "lot"))))
    .nil) .nil)
    (.cons (.ife (.cmp .Eq (.idx (.var 1) (.con (.int 0))) (.con (.str "num"))) (.cons (.ret (.and_ (.isi (.idx (.var 1) (.con (.int 2))) [.str]) (.cmp .In (.idx (.var 1) (.con (.int 2))) (.mcl 0 35 [false] (.var 0) .nil [.arg 0]))))
    .nil) .nil)
    (.cons (.ret (.and_ (.cmp .Eq (.idx (.var 1) (.con (.int 0))) (.con (.str "size"))) (.cal 5 [false, false] (.cons (.var 0) (.cons (.idx (.var 1) (.con (.int 2))) .nil)) [] .nil [.arg 0, .arg 1])))
    .nil)))))
def b11 : Ss := (.cons (.ife (.or_ (.not_ (.isi (.var 1) [.tuple])) (.cmp .Gt (.bi .len (.cons (.var 1) .nil)) (.glb 5))) (.cons (.ret (.con (.bl false)))
    .nil) .nil)
    (.cons (.ret (.bi .all (.cons (.cpr [2] (.nm 2) (.seq (.var 1)) .non (.cal 10 [false, false] (.cons (.var 0) (.cons (.var 2) .nil)) [] .nil [.arg 0, .arg 1])) .nil)))
    .nil))
def b12 : Ss := (.cons (.asg (.nm 2) (.bin .Mult (.lst (.cons (.con (.int 0)) .nil)) (.bin .Add (.con (.int 1)) (.lno 0 36 (.var 0)))))
    (.cons (.for_ (.star [3, 4] 5) (.seq (.var 1)) (.cons (.ife (.cmp .Eq (.var 3) (.con (.str "lot"))) (.cons (.augx (.var 2) (.con (.int 0)) .Add (.var 4))
    .nil) (.cons (.ife (.cmp .Eq (.var 3) (.con (.str "num"))) (.cons (.augx (.var 2) (.bin .Add (.con (.int 1)) (.mcl 0 37 [false, false] (.var 0) (.cons (.idx (.var 5) (.con (.int 0))) .nil) [.arg 0, .arg 1])) .Add (.var 4))
    .nil) (.cons (.for_ (.nm 6) (.seq (.cal 7 [false, false] (.cons (.var 0) (.cons (.idx (.var 5) (.con (.int 0))) .nil)) [] .nil [.arg 0, .arg 1])) (.cons (.augx (.var 2) (.bin .Add (.con (.int 1)) (.var 6)) .Add (.var 4))
    .nil))
    .nil))
    .nil))
    .nil))
    (.cons (.ret (.bi .tuple (.cons (.var 2) .nil)))
    .nil)))
def b13 : Ss := (.cons (.asg (.star [4] 8) (.var 1))
    (.cons (.asg (.nm 2) (.mcl 0 34 [false] (.var 0) .nil [.arg 0]))
    (.cons (.asg (.nm 3) (.lst (.cons (.tup (.cons (.con (.str "lot")) (.cons (.var 4) .nil))) .nil)))
    (.cons (.for_ (.tup [(.nm 5), (.nm 6)]) (.enu (.slc (.var 8) .non (.som (.var 2)))) (.cons (.exp (.mmt .append (.var 3) (.cons (.tup (.cons (.con (.str "size")) (.cons (.var 6) (.cons (.cal 9 [false, false] (.cons (.var 0) (.cons (.lst (.cons (.var 5) .nil)) .nil)) [] .nil [.arg 0, .arg 1]) .nil)))) .nil)))
    .nil))
    (.cons (.for_ (.tup [(.nm 7), (.nm 6)]) (.zip (.mcl 0 35 [false] (.var 0) .nil [.arg 0]) (.slc (.var 8) (.som (.var 2)) .non)) (.cons (.exp (.mmt .append (.var 3) (.cons (.tup (.cons (.con (.str "num")) (.cons (.var 6) (.cons (.var 7) .nil)))) .nil)))
    .nil))
    (.cons (.ret (.bi .tuple (.cons (.cpr [9] (.nm 9) (.seq (.var 3)) (.som (.cmp .NotEq (.idx (.var 9) (.con (.int 1))) (.con (.int 0)))) (.var 9)) .nil)))
    .nil))))))
def b14 : Ss := (.cons (.asg (.nm 2) (.con (.int 0)))
    (.cons (.ife (.cmp .Lt (.var 1) (.bi .len (.cons (.var 0) .nil))) (.cons (.asg (.nm 2) (.idx (.var 0) (.var 1)))
    .nil) .nil)
    (.cons (.ret (.lst (.cons (.bi .max2 (.cons (.con (.int 0)) (.cons (.bin .Sub (.var 2) (.bin .Pow (.con (.int 10)) (.con (.int 18)))) .nil))) (.cons (.bin .Mod (.var 2) (.con (.int 1000000007))) (.cons (.bin .Add (.bin .Mult (.con (.int 7919)) (.var 1)) (.con (.int 1))) .nil)))))
    .nil)))
def b15 : Ss := (.cons (.ife (.cmp .Gt (.idx (.var 0) (.con (.int 0))) (.con (.int 0))) (.cons (.asg (.nm 4) (.bin .Mod (.idx (.var 0) (.con (.int 0))) (.var 1)))
    (.cons (.setx (.var 0) (.con (.int 0)) (.bin .FloorDiv (.idx (.var 0) (.con (.int 0))) (.var 1)))
    (.cons (.ret (.var 4))
    .nil))) .nil)
    (.cons (.setx (.var 0) (.con (.int 2)) (.bin .Add (.idx (.var 0) (.con (.int 2))) (.con (.int 1))))
    (.cons (.asg (.nm 2) (.bin .Mod (.bin .Add (.bin .Add (.bin .Mult (.idx (.var 0) (.con (.int 1))) (.con (.int 48271))) (.bin .Mult (.con (.int 104729)) (.idx (.var 0) (.con (.int 2))))) (.con (.int 101))) (.con (.int 2147483629))))
    (.cons (.asg (.nm 2) (.bin .Mod (.bin .Pow (.var 2) (.con (.int 5))) (.con (.int 2147483587))))
    (.cons (.asg (.nm 3) (.bin .Mod (.bin .Pow (.bin .Add (.bin .Add (.var 2) (.bin .Mult (.bin .Mult (.con (.int 69621)) (.idx (.var 0) (.con (.int 2)))) (.idx (.var 0) (.con (.int 2))))) (.bin .Mod (.idx (.var 0) (.con (.int 1))) (.con (.int 65537)))) (.con (.int 3))) (.con (.int 2147483563))))
    (.cons (.ret (.bin .Mod (.bin .FloorDiv (.bin .Mod (.bin .Mult (.var 3) (.con (.int 40692))) (.con (.int 2147483549))) (.con (.int 64))) (.var 1)))
    .nil))))))
def b16 : Ss := (.cons (.ret (.cpr [2] (.nm 2) (.rng1 (.bi .max2 (.cons (.con (.int 1)) (.cons (.bi .min2 (.cons (.var 1) (.cons (.bi .len (.cons (.var 0) .nil)) .nil))) .nil)))) .non (.bi .sum (.cons (.slx (.var 0) (.som (.var 2)) (.som (.con (.int 63))) (.var 1)) .nil))))
    .nil)
def b17 : Ss := (.cons (.asg (.nm 2) (.idx (.lst (.cons (.con (.str "abcdefghijklmnopqrstuvwxyz")) (.cons (.con (.str "ab")) .nil))) (.cal 15 [true, false] (.cons (.var 0) (.cons (.con (.int 2)) .nil)) [] .nil [.arg 0, .arg 1])))
    (.cons (.asg (.nm 3) (.lst .nil))
    (.cons (.for_ (.nm 4) (.rng1 (.var 1)) (.cons (.asg (.nm 5) (.mth .join (.con (.str "")) (.cons (.cpr [9] (.nm 9) (.rng1 (.bin .Add (.con (.int 1)) (.cal 15 [true, false] (.cons (.var 0) (.cons (.con (.int 8)) .nil)) [] .nil [.arg 0, .arg 1]))) .non (.idx (.var 2) (.cal 15 [true, false] (.cons (.var 0) (.cons (.bi .len (.cons (.var 2) .nil)) .nil)) [] .nil [.arg 0, .arg 1]))) .nil)))
    (.cons (.asg (.nm 6) (.cal 15 [true, false] (.cons (.var 0) (.cons (.bi .len (.cons (.var 5) .nil)) .nil)) [] .nil [.arg 0, .arg 1]))
    (.cons (.asg (.nm 7) (.bin .Add (.lst (.cons (.var 5) .nil)) (.cpr [10] (.nm 10) (.seq (.con (.str "abcdefghijklmnopqrstuvwxyz"))) .non (.bin .Add (.bin .Add (.slc (.var 5) .non (.som (.var 6))) (.var 10)) (.slc (.var 5) (.som (.bin .Add (.var 6) (.con (.int 1)))) .non)))))
    (.cons (.asg (.nm 7) (.cpr [8] (.nm 8) (.seq (.var 7)) (.som (.cmp .NotIn (.var 8) (.var 3))) (.var 8)))
    (.cons (.exp (.mmt .append (.var 3) (.cons (.idx (.var 7) (.con (.int 0))) .nil)))
    .nil))))))
    (.cons (.ret (.var 3))
    .nil))))
def b18 : Ss := (.cons (.asg (.nm 3) (.cal 15 [true, false] (.cons (.var 0) (.cons (.bin .Add (.var 1) (.con (.int 1))) .nil)) [] .nil [.arg 0, .arg 1]))
    (.cons (.asg (.nm 4) (.cal 17 [true, false] (.cons (.var 0) (.cons (.bin .Add (.var 3) (.cal 15 [true, false] (.cons (.var 0) (.cons (.bin .Add (.var 2) (.con (.int 1))) .nil)) [] .nil [.arg 0, .arg 1])) .nil)) [] .nil [.arg 0, .arg 1]))
    (.cons (.ret (.tup (.cons (.bi .tuple (.cons (.bi .sorted (.cons (.slc (.var 4) .non (.som (.var 3))) .nil)) .nil)) (.cons (.bi .tuple (.cons (.bi .sorted (.cons (.slc (.var 4) (.som (.var 3)) .non) .nil)) .nil)) .nil))))
    .nil)))
def b19 : Ss := (.cons (.asg (.nm 3) (.var 1))
    (.cons (.for_ (.nm 4) (.seq (.var 0)) (.cons (.ife (.cmp .Eq (.var 4) (.var 2)) (.cons (.ret (.cmp .Eq (.bin .Mod (.var 3) (.con (.int 2))) (.con (.int 1))))
    .nil) .nil)
    (.cons (.asg (.nm 3) (.bin .FloorDiv (.var 3) (.con (.int 2))))
    .nil)))
    (.cons (.ret (.con (.bl false)))
    .nil)))
def b20 : Ss := (.cons (.ife (.isi (.var 2) [.str]) (.cons (.ret (.cal 19 [false, false, false] (.cons (.var 0) (.cons (.var 1) (.cons (.var 2) .nil))) [] .nil [.arg 0, .arg 1, .arg 2]))
    .nil) .nil)
    (.cons (.ife (.cmp .Eq (.idx (.var 2) (.con (.int 0))) (.con (.str "not"))) (.cons (.ret (.not_ (.cal 20 [false, false, false] (.cons (.var 0) (.cons (.var 1) (.cons (.idx (.var 2) (.con (.int 1))) .nil))) [] .nil [.arg 0, .arg 1, .arg 2])))
    .nil) .nil)
    (.cons (.ife (.cmp .In (.idx (.var 2) (.con (.int 0))) (.tup (.cons (.con (.str "all")) (.cons (.con (.str "none")) .nil)))) (.cons (.ret (.cmp .Eq (.idx (.var 2) (.con (.int 0))) (.con (.str "all"))))
    .nil) .nil)
    (.cons (.asg (.nm 3) (.cal 20 [false, false, false] (.cons (.var 0) (.cons (.var 1) (.cons (.idx (.var 2) (.con (.int 1))) .nil))) [] .nil [.arg 0, .arg 1, .arg 2]))
    (.cons (.asg (.nm 4) (.cal 20 [false, false, false] (.cons (.var 0) (.cons (.var 1) (.cons (.idx (.var 2) (.con (.int 2))) .nil))) [] .nil [.arg 0, .arg 1, .arg 2]))
    (.cons (.ife (.cmp .Eq (.idx (.var 2) (.con (.int 0))) (.con (.str "and"))) (.cons (.ret (.and_ (.var 3) (.var 4)))
    .nil) .nil)
    (.cons (.ife (.cmp .Eq (.idx (.var 2) (.con (.int 0))) (.con (.str "or"))) (.cons (.ret (.or_ (.var 3) (.var 4)))
    .nil) .nil)
    (.cons (.ret (.and_ (.var 3) (.not_ (.var 4))))
    .nil))))))))
def b21 : Ss := (.cons (.ret (.and_ (.isi (.var 0) [.int]) (.not_ (.isi (.var 0) [.bool]))))
    .nil)
def b22 : Ss := (.cons (.asg (.nm 1) (.con (.int 0)))
    (.cons (.for_ (.nm 2) (.rng1 (.con (.int 5))) (.cons (.asg (.nm 1) (.bin .Add (.bin .Mult (.var 1) (.bin .Pow (.con (.int 10)) (.con (.int 6)))) (.cal 15 [true, false] (.cons (.var 0) (.cons (.bin .Pow (.con (.int 10)) (.con (.int 6))) .nil)) [] .nil [.arg 0, .arg 1])))
    .nil))
    (.cons (.ret (.var 1))
    .nil)))
def b23 : Ss := (.cons (.asg (.nm 1) (.cal 15 [true, false] (.cons (.var 0) (.cons (.con (.int 4)) .nil)) [] .nil [.arg 0, .arg 1]))
    (.cons (.ife (.cmp .Eq (.var 1) (.con (.int 0))) (.cons (.ret (.con (.int 0)))
    .nil) .nil)
    (.cons (.ife (.cmp .Eq (.var 1) (.con (.int 3))) (.cons (.ret (.bin .Mult (.cal 22 [true] (.cons (.var 0) .nil) [] .nil [.arg 0]) (.idx (.lst (.cons (.con (.int 1)) (.cons (.neg (.con (.int 1))) .nil))) (.cal 15 [true, false] (.cons (.var 0) (.cons (.con (.int 2)) .nil)) [] .nil [.arg 0, .arg 1]))))
    .nil) .nil)
    (.cons (.ret (.bin .Mult (.idx (.lst (.cons (.bin .Add (.con (.int 1)) (.cal 15 [true, false] (.cons (.var 0) (.cons (.con (.int 9)) .nil)) [] .nil [.arg 0, .arg 1])) (.cons (.cal 15 [true, false] (.cons (.var 0) (.cons (.con (.int 1000)) .nil)) [] .nil [.arg 0, .arg 1]) .nil))) (.bin .Sub (.var 1) (.con (.int 1)))) (.idx (.lst (.cons (.con (.int 1)) (.cons (.neg (.con (.int 1))) .nil))) (.cal 15 [true, false] (.cons (.var 0) (.cons (.con (.int 2)) .nil)) [] .nil [.arg 0, .arg 1]))))
    .nil))))
def b24 : Ss := (.cons (.ret (.cpr [2] (.nm 2) (.rng1 (.var 1)) .non (.cal 23 [true] (.cons (.var 0) .nil) [] .nil [.arg 0])))
    .nil)
def b25 : Ss := (.cons (.ret (.ite (.cmp .Eq (.cal 15 [true, false] (.cons (.var 0) (.cons (.con (.int 2)) .nil)) [] .nil [.arg 0, .arg 1]) (.con (.int 0))) (.bi .tuple (.cons (.var 1) .nil)) (.bi .list (.cons (.var 1) .nil))))
    .nil)
def b26 : Ss := (.cons (.asg (.nm 1) (.con (.int 1)))
    (.cons (.for_ (.nm 2) (.seq (.var 0)) (.cons (.asg (.nm 1) (.bin .Mult (.var 1) (.con (.int 2))))
    .nil))
    (.cons (.ret (.var 1))
    .nil)))
def b27 : Ss := (.cons (.asg (.nm 2) (.cal 26 [false] (.cons (.idx (.var 0) (.con (.int 0))) .nil) [] .nil [.arg 0]))
    (.cons (.asg (.nm 3) (.cpr [5] (.nm 5) (.rng1 (.bin .Add (.bin .Add (.con (.int 1)) (.var 2)) (.bi .len (.cons (.idx (.var 0) (.con (.int 1))) .nil)))) .non (.con (.int 0))))
    (.cons (.for_ (.nm 4) (.seq (.var 1)) (.cons (.ife (.cmp .Eq (.idx (.var 4) (.con (.int 0))) (.con (.str "lot"))) (.cons (.setx (.var 3) (.con (.int 0)) (.bin .Add (.idx (.var 3) (.con (.int 0))) (.idx (.var 4) (.con (.int 1)))))
    .nil) (.cons (.ife (.cmp .Eq (.idx (.var 4) (.con (.int 0))) (.con (.str "num"))) (.cons (.asg (.nm 5) (.bin .Add (.bin .Add (.con (.int 1)) (.var 2)) (.idx (.cpr [7, 8] (.tup [(.nm 7), (.nm 8)]) (.enu (.idx (.var 0) (.con (.int 1)))) (.som (.cmp .Eq (.var 8) (.idx (.var 4) (.con (.int 2))))) (.var 7)) (.con (.int 0)))))
    (.cons (.setx (.var 3) (.var 5) (.bin .Add (.idx (.var 3) (.var 5)) (.idx (.var 4) (.con (.int 1)))))
    .nil)) (.cons (.for_ (.nm 6) (.rng1 (.var 2)) (.cons (.ife (.cal 20 [false, false, false] (.cons (.idx (.var 0) (.con (.int 0))) (.cons (.var 6) (.cons (.idx (.var 4) (.con (.int 2))) .nil))) [] .nil [.arg 0, .arg 1, .arg 2]) (.cons (.setx (.var 3) (.bin .Add (.con (.int 1)) (.var 6)) (.bin .Add (.idx (.var 3) (.bin .Add (.con (.int 1)) (.var 6))) (.idx (.var 4) (.con (.int 1)))))
    .nil) .nil)
    .nil))
    .nil))
    .nil))
    .nil))
    (.cons (.ret (.bi .tuple (.cons (.var 3) .nil)))
    .nil))))
def b28 : Ss := (.cons (.ife (.cmp .Eq (.var 2) (.con (.int 0))) (.cons (.ret (.con (.int 0)))
    .nil) .nil)
    (.cons (.ife (.isi (.var 1) [.str]) (.cons (.ret (.bi .int (.cons (.cmp .In (.var 1) (.var 0)) .nil)))
    .nil) .nil)
    (.cons (.ife (.or_ (.not_ (.isi (.var 1) [.tuple])) (.or_ (.cmp .Eq (.bi .len (.cons (.var 1) .nil)) (.con (.int 0))) (.not_ (.isi (.idx (.var 1) (.con (.int 0))) [.str])))) (.cons (.ret (.con (.int 0)))
    .nil) .nil)
    (.cons (.ife (.cmp .Eq (.bi .len (.cons (.var 1) .nil)) (.con (.int 1))) (.cons (.ret (.bi .int (.cons (.cmp .In (.idx (.var 1) (.con (.int 0))) (.tup (.cons (.con (.str "all")) (.cons (.con (.str "none")) .nil)))) .nil)))
    .nil) .nil)
    (.cons (.ife (.and_ (.cmp .Eq (.bi .len (.cons (.var 1) .nil)) (.con (.int 2))) (.cmp .Eq (.idx (.var 1) (.con (.int 0))) (.con (.str "not")))) (.cons (.asg (.nm 3) (.cal 28 [false, false, false] (.cons (.var 0) (.cons (.idx (.var 1) (.con (.int 1))) (.cons (.bin .Sub (.var 2) (.con (.int 1))) .nil))) [] .nil [.arg 0, .arg 1, .arg 2]))
    (.cons (.ret (.bin .Mult (.bin .Add (.var 3) (.con (.int 1))) (.bi .int (.cons (.cmp .Gt (.var 3) (.con (.int 0))) .nil))))
    .nil)) .nil)
    (.cons (.ife (.and_ (.cmp .Eq (.bi .len (.cons (.var 1) .nil)) (.con (.int 3))) (.cmp .In (.idx (.var 1) (.con (.int 0))) (.tup (.cons (.con (.str "and")) (.cons (.con (.str "or")) (.cons (.con (.str "but")) .nil)))))) (.cons (.asg (.nm 3) (.cal 28 [false, false, false] (.cons (.var 0) (.cons (.idx (.var 1) (.con (.int 1))) (.cons (.bin .Sub (.var 2) (.con (.int 1))) .nil))) [] .nil [.arg 0, .arg 1, .arg 2]))
    (.cons (.asg (.nm 4) (.cal 28 [false, false, false] (.cons (.var 0) (.cons (.idx (.var 1) (.con (.int 2))) (.cons (.bin .Sub (.var 2) (.con (.int 1))) .nil))) [] .nil [.arg 0, .arg 1, .arg 2]))
    (.cons (.ret (.bin .Mult (.bin .Add (.bin .Add (.var 3) (.var 4)) (.con (.int 1))) (.bi .int (.cons (.and_ (.cmp .Gt (.var 3) (.con (.int 0))) (.cmp .Gt (.var 4) (.con (.int 0)))) .nil))))
    .nil))) .nil)
    (.cons (.ret (.con (.int 0)))
    .nil)))))))
def b29 : Ss := (.cons (.ife (.or_ (.not_ (.isi (.var 1) [.tuple])) (.or_ (.cmp .Lt (.bi .len (.cons (.var 1) .nil)) (.con (.int 2))) (.cmp .Gt (.bi .len (.cons (.var 1) .nil)) (.con (.int 3))))) (.cons (.ret (.con (.bl false)))
    .nil) .nil)
    (.cons (.ife (.or_ (.not_ (.isi (.idx (.var 1) (.con (.int 0))) [.str])) (.not_ (.cal 21 [false] (.cons (.idx (.var 1) (.con (.int 1))) .nil) [] .nil [.arg 0]))) (.cons (.ret (.con (.bl false)))
    .nil) .nil)
    (.cons (.ife (.cmp .Eq (.bi .len (.cons (.var 1) .nil)) (.con (.int 2))) (.cons (.ret (.cmp .Eq (.idx (.var 1) (.con (.int 0))) (.con (.str "lot"))))
    .nil) .nil)
    (.cons (.ife (.cmp .Eq (.idx (.var 1) (.con (.int 0))) (.con (.str "num"))) (.cons (.ret (.and_ (.isi (.idx (.var 1) (.con (.int 2))) [.str]) (.cmp .In (.idx (.var 1) (.con (.int 2))) (.idx (.var 0) (.con (.int 1))))))
    .nil) .nil)
    (.cons (.ret (.and_ (.cmp .Eq (.idx (.var 1) (.con (.int 0))) (.con (.str "size"))) (.chn .LtE .LtE (.con (.int 1)) (.cal 28 [false, false, false] (.cons (.idx (.var 0) (.con (.int 0))) (.cons (.idx (.var 1) (.con (.int 2))) (.cons (.con (.int 12)) .nil))) [] .nil [.arg 0, .arg 1, .arg 2]) (.con (.int 100)))))
    .nil)))))
def b30 : Ss := (.cons (.ife (.or_ (.not_ (.isi (.var 1) [.tuple])) (.cmp .Gt (.bi .len (.cons (.var 1) .nil)) (.con (.int 12)))) (.cons (.ret (.con (.bl false)))
    .nil) .nil)
    (.cons (.ret (.bi .all (.cons (.cpr [2] (.nm 2) (.seq (.var 1)) .non (.cal 29 [false, false] (.cons (.var 0) (.cons (.var 2) .nil)) [] .nil [.arg 0, .arg 1])) .nil)))
    .nil))
def b31 : Ss := (.cons (.asg (.nm 1) (.cal 18 [true, false, false] (.cons (.var 0) (.cons (.con (.int 3)) (.cons (.con (.int 2)) .nil))) [] .nil [.arg 0, .arg 1, .arg 2]))
    (.cons (.asg (.nm 2) (.bi .max2 (.cons (.con (.int 1)) (.cons (.idx (.lst (.cons (.cal 15 [true, false] (.cons (.var 0) (.cons (.con (.int 13)) .nil)) [] .nil [.arg 0, .arg 1]) (.cons (.cal 22 [true] (.cons (.var 0) .nil) [] .nil [.arg 0]) .nil))) (.cal 15 [true, false] (.cons (.var 0) (.cons (.con (.int 2)) .nil)) [] .nil [.arg 0, .arg 1])) .nil))))
    (.cons (.asg (.nm 3) (.mk 0 33 [false, false] (.cons (.idx (.var 1) (.con (.int 0))) (.cons (.idx (.var 1) (.con (.int 1))) .nil)) [false] (.cons (.var 2) .nil) [.arg 0, .arg 1, .arg 2, .arg 3]))
    (.cons (.asg (.nm 4) (.cal 24 [true, false] (.cons (.var 0) (.cons (.bin .Add (.bin .Add (.con (.int 1)) (.cal 26 [false] (.cons (.idx (.var 1) (.con (.int 0))) .nil) [] .nil [.arg 0])) (.bi .len (.cons (.idx (.var 1) (.con (.int 1))) .nil))) .nil)) [] .nil [.arg 0, .arg 1]))
    (.cons (.asg (.nm 5) (.cpr [12] (.nm 12) (.seq (.var 4)) .non (.bin .Mult (.var 12) (.bi .int (.cons (.cmp .Eq (.cal 15 [true, false] (.cons (.var 0) (.cons (.con (.int 3)) .nil)) [] .nil [.arg 0, .arg 1]) (.con (.int 0))) .nil)))))
    (.cons (.for_ (.nm 6) (.seq (.tup (.cons (.var 4) (.cons (.var 5) (.cons (.cpr [12] (.nm 12) (.seq (.var 4)) .non (.con (.int 0))) (.cons (.cpr [12] (.nm 12) (.seq (.var 4)) .non (.con (.int 1))) .nil)))))) (.cons (.asg (.nm 10) (.cal 25 [true, false] (.cons (.var 0) (.cons (.var 6) .nil)) [] .nil [.arg 0, .arg 1]))
    (.cons (.asg (.nm 11) (.bi .repr (.cons (.var 10) .nil)))
    (.cons (.asg (.nm 9) (.cal 13 [false, false] (.cons (.var 3) (.cons (.var 10) .nil)) [] .nil [.arg 0, .arg 1]))
    (.cons (.ife (.or_ (.not_ (.cal 30 [false, false] (.cons (.var 1) (.cons (.var 9) .nil)) [] .nil [.arg 0, .arg 1])) (.cmp .NotEq (.bi .repr (.cons (.cal 27 [false, false] (.cons (.var 1) (.cons (.var 9) .nil)) [] .nil [.arg 0, .arg 1]) .nil)) (.bi .repr (.cons (.bi .tuple (.cons (.var 6) .nil)) .nil)))) (.cons (.ret (.con (.bl false)))
    .nil) .nil)
    (.cons (.ife (.or_ (.cmp .NotEq (.bi .repr (.cons (.cal 13 [] .nil [false, false] (.cons (.var 3) (.cons (.bi .tuple (.cons (.var 6) .nil)) .nil)) [.arg 0, .arg 1]) .nil)) (.bi .repr (.cons (.var 9) .nil))) (.cmp .NotEq (.bi .repr (.cons (.cal 13 [false, false] (.cons (.var 3) (.cons (.bi .list (.cons (.var 6) .nil)) .nil)) [] .nil [.arg 0, .arg 1]) .nil)) (.bi .repr (.cons (.var 9) .nil)))) (.cons (.ret (.con (.bl false)))
    .nil) .nil)
    (.cons (.ife (.or_ (.cmp .NotEq (.bi .repr (.cons (.var 10) .nil)) (.var 11)) (.or_ (.cmp .IsNot (.cal 11 [false, false] (.cons (.var 3) (.cons (.var 9) .nil)) [] .nil [.arg 0, .arg 1]) (.con (.bl true))) (.cmp .NotEq (.cal 12 [false, false] (.cons (.var 3) (.cons (.var 9) .nil)) [] .nil [.arg 0, .arg 1]) (.bi .tuple (.cons (.var 6) .nil))))) (.cons (.ret (.con (.bl false)))
    .nil) .nil)
    .nil)))))))
    (.cons (.asg (.nm 7) (.mk 0 33 [false, false] (.cons (.idx (.var 1) (.con (.int 1))) (.cons (.slc (.idx (.var 1) (.con (.int 0))) .non (.som (.con (.int 2)))) .nil)) [false] (.cons (.var 2) .nil) [.arg 0, .arg 1, .arg 2, .arg 3]))
    (.cons (.asg (.nm 8) (.bin .Add (.bin .Add (.con (.int 1)) (.cal 26 [false] (.cons (.idx (.var 1) (.con (.int 1))) .nil) [] .nil [.arg 0])) (.bi .len (.cons (.slc (.idx (.var 1) (.con (.int 0))) .non (.som (.con (.int 2)))) .nil))))
    (.cons (.asg (.nm 9) (.cal 13 [false, false] (.cons (.var 7) (.cons (.bin .Mult (.slc (.var 4) .non (.som (.con (.int 1)))) (.var 8)) .nil)) [] .nil [.arg 0, .arg 1]))
    (.cons (.ret (.cmp .Eq (.bi .repr (.cons (.cal 27 [false, false] (.cons (.tup (.cons (.idx (.var 1) (.con (.int 1))) (.cons (.slc (.idx (.var 1) (.con (.int 0))) .non (.som (.con (.int 2)))) .nil))) (.cons (.var 9) .nil)) [] .nil [.arg 0, .arg 1]) .nil)) (.bi .repr (.cons (.bi .tuple (.cons (.bin .Mult (.slc (.var 4) .non (.som (.con (.int 1)))) (.var 8)) .nil)) .nil))))
    .nil))))))))))
def b32 : Ss := (.cons (.asg (.nm 1) (.cal 16 [false, false] (.cons (.var 0) (.cons (.con (.int 4)) .nil)) [] .nil [.arg 0, .arg 1]))
    (.cons (.ret (.bi .all (.cons (.cpr [2] (.nm 2) (.rng1 (.bi .len (.cons (.var 1) .nil))) .non (.cal 31 [true] (.cons (.cal 14 [false, false] (.cons (.var 1) (.cons (.var 2) .nil)) [] .nil [.arg 0, .arg 1]) .nil) [] .nil [.arg 0])) .nil)))
    .nil))
def b33 : Ss := (.cons (.ife (.or_ (.not_ (.cal 3 [false, false] (.cons (.var 1) (.cons (.glb 6) .nil)) [] .nil [.arg 0, .arg 1])) (.not_ (.cal 3 [false, false] (.cons (.var 2) (.cons (.glb 7) .nil)) [] .nil [.arg 0, .arg 1]))) (.cons .bad
    .nil) .nil)
    (.cons (.ife (.or_ (.bi .any (.cons (.cpr [4] (.nm 4) (.seq (.var 2)) .non (.cmp .In (.var 4) (.var 1))) .nil)) (.not_ (.cal 1 [false] (.cons (.var 3) .nil) [false] (.cons (.con (.int 1)) .nil) [.arg 0, .arg 1, .con .non]))) (.cons .bad
    .nil) .nil)
    (.cons (.setf (.var 0) 0 0 (.var 1))
    (.cons (.setf (.var 0) 0 1 (.var 2))
    (.cons (.setf (.var 0) 0 2 (.var 3))
    .nil)))))
def b34 : Ss := (.cons (.ret (.bin .LShift (.con (.int 1)) (.bi .len (.cons (.fld (.var 0) 0 0) .nil))))
    .nil)
def b35 : Ss := (.cons (.ret (.fld (.var 0) 0 1))
    .nil)
def b36 : Ss := (.cons (.ret (.bi .len (.cons (.bin .Add (.bin .Mult (.lst (.cons (.con (.int 0)) .nil)) (.mcl 0 34 [false] (.var 0) .nil [.arg 0])) (.bi .list (.cons (.fld (.var 0) 0 1) .nil))) .nil)))
    .nil)
def b37 : Ss := (.cons (.ife (.cmp .NotIn (.var 1) (.fld (.var 0) 0 1)) (.cons .bad
    .nil) .nil)
    (.cons (.ret (.bin .Add (.mcl 0 34 [false] (.var 0) .nil [.arg 0]) (.mth .tindex (.fld (.var 0) 0 1) (.cons (.var 1) .nil))))
    .nil))
def b38 : Ss := (.cons (.ret (.fld (.var 0) 0 0))
    .nil)
def b39 : Ss := (.cons (.exp (.mcl 0 40 [false, false] (.var 0) (.cons (.var 1) .nil) [.arg 0, .arg 1]))
    (.cons (.ife (.cmp .NotIn (.var 2) (.fld (.var 0) 0 0)) (.cons .bad
    .nil) .nil)
    (.cons (.ret (.cmp .Eq (.bin .Mod (.bin .RShift (.var 1) (.mth .tindex (.fld (.var 0) 0 0) (.cons (.var 2) .nil))) (.con (.int 2))) (.con (.int 1))))
    .nil)))
def b40 : Ss := (.cons (.ife (.not_ (.cal 1 [false] (.cons (.var 1) .nil) [false, false] (.cons (.con (.int 0)) (.cons (.bin .Sub (.mcl 0 34 [false] (.var 0) .nil [.arg 0]) (.con (.int 1))) .nil)) [.arg 0, .arg 1, .arg 2])) (.cons .bad
    .nil) .nil)
    .nil)
def t0 : Df := ⟨[false], 0, b0⟩
def t1 : Df := ⟨[false, false, false], 0, b1⟩
def t2 : Df := ⟨[false], 1, b2⟩
def t3 : Df := ⟨[false, false], 3, b3⟩
def t4 : Df := ⟨[false, false, false], 4, b4⟩
def t5 : Df := ⟨[false, false], 0, b5⟩
def t6 : Df := ⟨[false, false, false], 6, b6⟩
def t7 : Df := ⟨[false, false], 1, b7⟩
def t8 : Df := ⟨[false, false], 3, b8⟩
def t9 : Df := ⟨[false, false], 3, b9⟩
def t10 : Df := ⟨[false, false], 0, b10⟩
def t11 : Df := ⟨[false, false], 1, b11⟩
def t12 : Df := ⟨[false, false], 5, b12⟩
def t13 : Df := ⟨[false, false], 8, b13⟩
def t14 : Df := ⟨[false, false], 1, b14⟩
def t15 : Df := ⟨[true, false], 3, b15⟩
def t16 : Df := ⟨[false, false], 1, b16⟩
def t17 : Df := ⟨[true, false], 9, b17⟩
def t18 : Df := ⟨[true, false, false], 2, b18⟩
def t19 : Df := ⟨[false, false, false], 2, b19⟩
def t20 : Df := ⟨[false, false, false], 2, b20⟩
def t21 : Df := ⟨[false], 0, b21⟩
def t22 : Df := ⟨[true], 2, b22⟩
def t23 : Df := ⟨[true], 1, b23⟩
def t24 : Df := ⟨[true, false], 1, b24⟩
def t25 : Df := ⟨[true, false], 0, b25⟩
def t26 : Df := ⟨[false], 2, b26⟩
def t27 : Df := ⟨[false, false], 7, b27⟩
def t28 : Df := ⟨[false, false, false], 2, b28⟩
def t29 : Df := ⟨[false, false], 0, b29⟩
def t30 : Df := ⟨[false, false], 1, b30⟩
def t31 : Df := ⟨[true], 12, b31⟩
def t32 : Df := ⟨[false], 2, b32⟩
def t33 : Df := ⟨[true, false, false, false], 1, b33⟩
def t34 : Df := ⟨[false], 0, b34⟩
def t35 : Df := ⟨[false], 0, b35⟩
def t36 : Df := ⟨[false], 0, b36⟩
def t37 : Df := ⟨[false, false], 0, b37⟩
def t38 : Df := ⟨[false], 0, b38⟩
def t39 : Df := ⟨[false, false, false], 0, b39⟩
def t40 : Df := ⟨[false, false], 0, b40⟩
def tms : Nat → Df
  | 0 => t0
  | 1 => t1
  | 2 => t2
  | 3 => t3
  | 4 => t4
  | 5 => t5
  | 6 => t6
  | 7 => t7
  | 8 => t8
  | 9 => t9
  | 10 => t10
  | 11 => t11
  | 12 => t12
  | 13 => t13
  | 14 => t14
  | 15 => t15
  | 16 => t16
  | 17 => t17
  | 18 => t18
  | 19 => t19
  | 20 => t20
  | 21 => t21
  | 22 => t22
  | 23 => t23
  | 24 => t24
  | 25 => t25
  | 26 => t26
  | 27 => t27
  | 28 => t28
  | 29 => t29
  | 30 => t30
  | 31 => t31
  | 32 => t32
  | 33 => t33
  | 34 => t34
  | 35 => t35
  | 36 => t36
  | 37 => t37
  | 38 => t38
  | 39 => t39
  | 40 => t40
  | _ => ⟨[], 0, .nil⟩
/-- the ways they are called -/
def ways : List FI := [⟨2, "is_name", 1, [], [.arg 0]⟩,
  ⟨4, "parts_of", 3, [], [.arg 0, .arg 1, .arg 2]⟩,
  ⟨6, "holds", 3, [], [.arg 0, .arg 1, .arg 2]⟩,
  ⟨8, "alone", 2, [], [.arg 0, .arg 1]⟩,
  ⟨1, "is_whole", 1, ["least", "most"], [.arg 0, .arg 1, .arg 2]⟩,
  ⟨5, "is_term", 2, [], [.arg 0, .arg 1]⟩,
  ⟨1, "is_whole", 1, [], [.arg 0, .con .non, .con .non]⟩,
  ⟨10, "is_addend", 2, [], [.arg 0, .arg 1]⟩,
  ⟨7, "regions_of", 2, [], [.arg 0, .arg 1]⟩,
  ⟨9, "term_for", 2, [], [.arg 0, .arg 1]⟩,
  ⟨15, "_law_take", 2, [], [.arg 0, .arg 1]⟩,
  ⟨17, "_law_names", 2, [], [.arg 0, .arg 1]⟩,
  ⟨20, "_law_in", 3, [], [.arg 0, .arg 1, .arg 2]⟩,
  ⟨19, "_law_lies", 3, [], [.arg 0, .arg 1, .arg 2]⟩,
  ⟨22, "_law_great", 1, [], [.arg 0]⟩,
  ⟨23, "_law_number", 1, [], [.arg 0]⟩,
  ⟨26, "_law_regions", 1, [], [.arg 0]⟩,
  ⟨28, "_law_parts", 3, [], [.arg 0, .arg 1, .arg 2]⟩,
  ⟨21, "_law_whole", 1, [], [.arg 0]⟩,
  ⟨29, "_law_is_addend", 2, [], [.arg 0, .arg 1]⟩,
  ⟨27, "_law_sum_row", 2, [], [.arg 0, .arg 1]⟩,
  ⟨13, "sum_for", 2, [], [.arg 0, .arg 1]⟩,
  ⟨11, "is_sum", 2, [], [.arg 0, .arg 1]⟩,
  ⟨12, "row_of", 2, [], [.arg 0, .arg 1]⟩,
  ⟨13, "sum_for", 0, ["talk", "row"], [.arg 0, .arg 1]⟩,
  ⟨30, "_law_is_sum", 2, [], [.arg 0, .arg 1]⟩,
  ⟨25, "_law_dressed", 2, [], [.arg 0, .arg 1]⟩,
  ⟨24, "_law_row", 2, [], [.arg 0, .arg 1]⟩,
  ⟨18, "_law_tongue", 3, [], [.arg 0, .arg 1, .arg 2]⟩,
  ⟨31, "_law_right", 1, [], [.arg 0]⟩,
  ⟨14, "_law_pool", 2, [], [.arg 0, .arg 1]⟩,
  ⟨16, "_law_folded", 2, [], [.arg 0, .arg 1]⟩,
  ⟨1, "is_whole", 1, ["least"], [.arg 0, .arg 1, .con .non]⟩,
  ⟨3, "are_names", 2, [], [.arg 0, .arg 1]⟩]
def gls : List (Nat × Str) := [(0, "MOST"), (1, "LETTERS"), (2, "LONGEST"), (3, "DEEPEST"), (4, "MOST_PARTS"), (5, "ADDENDS"), (6, "MOST_SETS"), (7, "MOST_NUMBERS")]
def top (i : Nat) : Stmt := PySem.Challenge.pw_countfold_k12_sums_for_rows.main.body.getD i (.Pass ⟨0, 0, 0, 0⟩)
def mth (i j : Nat) : Stmt := match top i with
  | .ClassDef _ _ _ b .. => b.getD j (.Pass ⟨0, 0, 0, 0⟩)
  | _ => .Pass ⟨0, 0, 0, 0⟩
def clsL : List (Nat × List Str) := [(0, ["set_names", "number_names", "top"])]
def mtsL : List MI := [⟨0, ⟨38, "sets", 1, [], [.arg 0]⟩⟩, ⟨0, ⟨39, "lies", 3, [], [.arg 0, .arg 1, .arg 2]⟩⟩, ⟨0, ⟨34, "regions", 1, [], [.arg 0]⟩⟩, ⟨0, ⟨35, "numbers", 1, [], [.arg 0]⟩⟩, ⟨0, ⟨37, "place", 2, [], [.arg 0, .arg 1]⟩⟩, ⟨0, ⟨40, "need_region", 2, [], [.arg 0, .arg 1]⟩⟩]
def mksL : List MI := [⟨0, ⟨33, "Talk", 3, ["most"], [.arg 0, .arg 1, .arg 2, .arg 3]⟩⟩]
def kdsL : List (Nat × Str) := [(0, "WORDS")]
def lnsL : List MI := [⟨0, ⟨36, "__len__", 1, [], [.arg 0]⟩⟩]
def s0 : Stat := { N := ["k"], pin := [], sc := defScope (top 0), fnc := true, fns := ways, gls := gls, cls := clsL, mts := mtsL, mks := mksL, kds := kdsL, lns := lnsL }
def s1 : Stat := { N := ["thing", "least", "most"], pin := [], sc := defScope (top 5), fnc := true, fns := ways, gls := gls, cls := clsL, mts := mtsL, mks := mksL, kds := kdsL, lns := lnsL }
def s2 : Stat := { N := ["thing", "letter"], pin := [], sc := defScope (top 6), fnc := true, fns := ways, gls := gls, cls := clsL, mts := mtsL, mks := mksL, kds := kdsL, lns := lnsL }
def s3 : Stat := { N := ["thing", "many", "one", "other", "name"], pin := [], sc := defScope (top 7), fnc := true, fns := ways, gls := gls, cls := clsL, mts := mtsL, mks := mksL, kds := kdsL, lns := lnsL }
def s4 : Stat := { N := ["talk", "thing", "left", "sizes", "word", "kids", "kid"], pin := [], sc := defScope (top 18), fnc := true, fns := ways, gls := gls, cls := clsL, mts := mtsL, mks := mksL, kds := kdsL, lns := lnsL }
def s5 : Stat := { N := ["talk", "thing"], pin := [], sc := defScope (top 19), fnc := true, fns := ways, gls := gls, cls := clsL, mts := mtsL, mks := mksL, kds := kdsL, lns := lnsL }
def s6 : Stat := { N := ["talk", "region", "term", "told", "word", "one", "other", "kids", "kid"], pin := [], sc := defScope (top 20), fnc := true, fns := ways, gls := gls, cls := clsL, mts := mtsL, mks := mksL, kds := kdsL, lns := lnsL }
def s7 : Stat := { N := ["talk", "term", "region"], pin := [], sc := defScope (top 21), fnc := true, fns := ways, gls := gls, cls := clsL, mts := mtsL, mks := mksL, kds := kdsL, lns := lnsL }
def s8 : Stat := { N := ["talk", "region", "found", "name", "side"], pin := [], sc := defScope (top 22), fnc := true, fns := ways, gls := gls, cls := clsL, mts := mtsL, mks := mksL, kds := kdsL, lns := lnsL }
def s9 : Stat := { N := ["talk", "regions", "region", "some", "found"], pin := [], sc := defScope (top 23), fnc := true, fns := ways, gls := gls, cls := clsL, mts := mtsL, mks := mksL, kds := kdsL, lns := lnsL }
def s10 : Stat := { N := ["talk", "thing"], pin := [], sc := defScope (top 26), fnc := true, fns := ways, gls := gls, cls := clsL, mts := mtsL, mks := mksL, kds := kdsL, lns := lnsL }
def s11 : Stat := { N := ["talk", "thing", "addend"], pin := [], sc := defScope (top 27), fnc := true, fns := ways, gls := gls, cls := clsL, mts := mtsL, mks := mksL, kds := kdsL, lns := lnsL }
def s12 : Stat := { N := ["talk", "addends", "row", "word", "many", "rest", "region"], pin := [], sc := defScope (top 28), fnc := true, fns := ways, gls := gls, cls := clsL, mts := mtsL, mks := mksL, kds := kdsL, lns := lnsL }
def s13 : Stat := { N := ["talk", "row", "many", "found", "constant", "region", "coef", "name", "coefs", "addend"], pin := [], sc := defScope (top 29), fnc := true, fns := ways, gls := gls, cls := clsL, mts := mtsL, mks := mksL, kds := kdsL, lns := lnsL }
def s14 : Stat := { N := ["_law_script", "_law_k", "_law_cell"], pin := [], sc := defScope (top 35), fnc := true, fns := ways, gls := gls, cls := clsL, mts := mtsL, mks := mksL, kds := kdsL, lns := lnsL }
def s15 : Stat := { N := ["_law_pool_here", "_law_many", "_law_one", "_law_two", "_law_digit"], pin := [0], sc := defScope (top 36), fnc := true, fns := ways, gls := gls, cls := clsL, mts := mtsL, mks := mksL, kds := kdsL, lns := lnsL }
def s16 : Stat := { N := ["_law_script", "_law_top", "_law_k"], pin := [], sc := defScope (top 37), fnc := true, fns := ways, gls := gls, cls := clsL, mts := mtsL, mks := mksL, kds := kdsL, lns := lnsL }
def s17 : Stat := { N := ["_law_pool_here", "_law_many", "_law_letters", "_law_found", "_law_k", "_law_word", "_law_at", "_law_some", "_law_one", "_law_turn", "_law_letter"], pin := [0], sc := defScope (top 38), fnc := true, fns := ways, gls := gls, cls := clsL, mts := mtsL, mks := mksL, kds := kdsL, lns := lnsL }
def s18 : Stat := { N := ["_law_pool_here", "_law_many", "_law_numbers", "_law_size", "_law_names_here"], pin := [0], sc := defScope (top 39), fnc := true, fns := ways, gls := gls, cls := clsL, mts := mtsL, mks := mksL, kds := kdsL, lns := lnsL }
def s19 : Stat := { N := ["_law_sets", "_law_region", "_law_name", "_law_bits", "_law_other"], pin := [], sc := defScope (top 40), fnc := true, fns := ways, gls := gls, cls := clsL, mts := mtsL, mks := mksL, kds := kdsL, lns := lnsL }
def s20 : Stat := { N := ["_law_sets", "_law_region", "_law_term", "_law_one", "_law_other"], pin := [], sc := defScope (top 41), fnc := true, fns := ways, gls := gls, cls := clsL, mts := mtsL, mks := mksL, kds := kdsL, lns := lnsL }
def s21 : Stat := { N := ["_law_thing"], pin := [], sc := defScope (top 42), fnc := true, fns := ways, gls := gls, cls := clsL, mts := mtsL, mks := mksL, kds := kdsL, lns := lnsL }
def s22 : Stat := { N := ["_law_pool_here", "_law_found", "_law_turn"], pin := [0], sc := defScope (top 43), fnc := true, fns := ways, gls := gls, cls := clsL, mts := mtsL, mks := mksL, kds := kdsL, lns := lnsL }
def s23 : Stat := { N := ["_law_pool_here", "_law_way"], pin := [0], sc := defScope (top 44), fnc := true, fns := ways, gls := gls, cls := clsL, mts := mtsL, mks := mksL, kds := kdsL, lns := lnsL }
def s24 : Stat := { N := ["_law_pool_here", "_law_many", "_law_turn"], pin := [0], sc := defScope (top 45), fnc := true, fns := ways, gls := gls, cls := clsL, mts := mtsL, mks := mksL, kds := kdsL, lns := lnsL }
def s25 : Stat := { N := ["_law_pool_here", "_law_line"], pin := [0], sc := defScope (top 46), fnc := true, fns := ways, gls := gls, cls := clsL, mts := mtsL, mks := mksL, kds := kdsL, lns := lnsL }
def s26 : Stat := { N := ["_law_sets", "_law_many", "_law_name"], pin := [], sc := defScope (top 47), fnc := true, fns := ways, gls := gls, cls := clsL, mts := mtsL, mks := mksL, kds := kdsL, lns := lnsL }
def s27 : Stat := { N := ["_law_tongue_here", "_law_addends", "_law_many", "_law_line", "_law_addend", "_law_at", "_law_region", "_law_k", "_law_name"], pin := [], sc := defScope (top 48), fnc := true, fns := ways, gls := gls, cls := clsL, mts := mtsL, mks := mksL, kds := kdsL, lns := lnsL }
def s28 : Stat := { N := ["_law_sets", "_law_thing", "_law_deep", "_law_one", "_law_other"], pin := [], sc := defScope (top 49), fnc := true, fns := ways, gls := gls, cls := clsL, mts := mtsL, mks := mksL, kds := kdsL, lns := lnsL }
def s29 : Stat := { N := ["_law_tongue_here", "_law_thing"], pin := [], sc := defScope (top 50), fnc := true, fns := ways, gls := gls, cls := clsL, mts := mtsL, mks := mksL, kds := kdsL, lns := lnsL }
def s30 : Stat := { N := ["_law_tongue_here", "_law_thing", "_law_addend"], pin := [], sc := defScope (top 51), fnc := true, fns := ways, gls := gls, cls := clsL, mts := mtsL, mks := mksL, kds := kdsL, lns := lnsL }
def s31 : Stat := { N := ["_law_pool_here", "_law_tongue_here", "_law_top", "_law_spoken", "_law_line", "_law_sparse", "_law_some", "_law_other", "_law_many", "_law_told", "_law_handed", "_law_kept", "_law_number_here"], pin := [0], sc := defScope (top 52), fnc := true, fns := ways, gls := gls, cls := clsL, mts := mtsL, mks := mksL, kds := kdsL, lns := lnsL }
def s32 : Stat := { N := ["_law_script", "_law_cells", "_law_k"], pin := [], sc := defScope (top 53), fnc := true, fns := ways, gls := gls, cls := clsL, mts := mtsL, mks := mksL, kds := kdsL, lns := lnsL }
def s33 : Stat := { N := ["self", "sets", "numbers", "most", "name"], pin := [0], sc := defScope (mth 33 0), fnc := true, fns := ways, gls := gls, cls := clsL, mts := mtsL, mks := mksL, kds := kdsL, lns := lnsL }
def s34 : Stat := { N := ["self"], pin := [], sc := defScope (mth 33 4), fnc := true, fns := ways, gls := gls, cls := clsL, mts := mtsL, mks := mksL, kds := kdsL, lns := lnsL }
def s35 : Stat := { N := ["self"], pin := [], sc := defScope (mth 33 2), fnc := true, fns := ways, gls := gls, cls := clsL, mts := mtsL, mks := mksL, kds := kdsL, lns := lnsL }
def s36 : Stat := { N := ["self"], pin := [], sc := defScope (mth 33 11), fnc := true, fns := ways, gls := gls, cls := clsL, mts := mtsL, mks := mksL, kds := kdsL, lns := lnsL }
def s37 : Stat := { N := ["self", "name"], pin := [], sc := defScope (mth 33 7), fnc := true, fns := ways, gls := gls, cls := clsL, mts := mtsL, mks := mksL, kds := kdsL, lns := lnsL }
def s38 : Stat := { N := ["self"], pin := [], sc := defScope (mth 33 1), fnc := true, fns := ways, gls := gls, cls := clsL, mts := mtsL, mks := mksL, kds := kdsL, lns := lnsL }
def s39 : Stat := { N := ["self", "region", "name"], pin := [], sc := defScope (mth 33 6), fnc := true, fns := ways, gls := gls, cls := clsL, mts := mtsL, mks := mksL, kds := kdsL, lns := lnsL }
def s40 : Stat := { N := ["self", "region"], pin := [], sc := defScope (mth 33 5), fnc := true, fns := ways, gls := gls, cls := clsL, mts := mtsL, mks := mksL, kds := kdsL, lns := lnsL }
def sts : Nat → Stat
  | 0 => s0
  | 1 => s1
  | 2 => s2
  | 3 => s3
  | 4 => s4
  | 5 => s5
  | 6 => s6
  | 7 => s7
  | 8 => s8
  | 9 => s9
  | 10 => s10
  | 11 => s11
  | 12 => s12
  | 13 => s13
  | 14 => s14
  | 15 => s15
  | 16 => s16
  | 17 => s17
  | 18 => s18
  | 19 => s19
  | 20 => s20
  | 21 => s21
  | 22 => s22
  | 23 => s23
  | 24 => s24
  | 25 => s25
  | 26 => s26
  | 27 => s27
  | 28 => s28
  | 29 => s29
  | 30 => s30
  | 31 => s31
  | 32 => s32
  | 33 => s33
  | 34 => s34
  | 35 => s35
  | 36 => s36
  | 37 => s37
  | 38 => s38
  | 39 => s39
  | 40 => s40
  | _ => { N := [], pin := [], sc := defScope (top 0), fnc := true, fns := [], gls := [] }
def pss : Nat → List Str
  | 0 => ["k"]
  | 1 => ["thing", "least", "most"]
  | 2 => ["thing"]
  | 3 => ["thing", "many"]
  | 4 => ["talk", "thing", "left"]
  | 5 => ["talk", "thing"]
  | 6 => ["talk", "region", "term"]
  | 7 => ["talk", "term"]
  | 8 => ["talk", "region"]
  | 9 => ["talk", "regions"]
  | 10 => ["talk", "thing"]
  | 11 => ["talk", "thing"]
  | 12 => ["talk", "addends"]
  | 13 => ["talk", "row"]
  | 14 => ["_law_script", "_law_k"]
  | 15 => ["_law_pool_here", "_law_many"]
  | 16 => ["_law_script", "_law_top"]
  | 17 => ["_law_pool_here", "_law_many"]
  | 18 => ["_law_pool_here", "_law_many", "_law_numbers"]
  | 19 => ["_law_sets", "_law_region", "_law_name"]
  | 20 => ["_law_sets", "_law_region", "_law_term"]
  | 21 => ["_law_thing"]
  | 22 => ["_law_pool_here"]
  | 23 => ["_law_pool_here"]
  | 24 => ["_law_pool_here", "_law_many"]
  | 25 => ["_law_pool_here", "_law_line"]
  | 26 => ["_law_sets"]
  | 27 => ["_law_tongue_here", "_law_addends"]
  | 28 => ["_law_sets", "_law_thing", "_law_deep"]
  | 29 => ["_law_tongue_here", "_law_thing"]
  | 30 => ["_law_tongue_here", "_law_thing"]
  | 31 => ["_law_pool_here"]
  | 32 => ["_law_script"]
  | 33 => ["self", "sets", "numbers", "most"]
  | 34 => ["self"]
  | 35 => ["self"]
  | 36 => ["self"]
  | 37 => ["self", "name"]
  | 38 => ["self"]
  | 39 => ["self", "region", "name"]
  | 40 => ["self", "region"]
  | _ => []
def d0 : He.DefD := ⟨("_wall", none), "_wall", "_wall", defArgs (top 0), defBody (top 0), defScope (top 0), [], []⟩
def d1 : He.DefD := ⟨("is_whole", none), "is_whole", "is_whole", defArgs (top 5), defBody (top 5), defScope (top 5), [], [("least", .non), ("most", .non)]⟩
def d2 : He.DefD := ⟨("is_name", none), "is_name", "is_name", defArgs (top 6), defBody (top 6), defScope (top 6), [], []⟩
def d3 : He.DefD := ⟨("are_names", none), "are_names", "are_names", defArgs (top 7), defBody (top 7), defScope (top 7), [], []⟩
def d4 : He.DefD := ⟨("parts_of", none), "parts_of", "parts_of", defArgs (top 18), defBody (top 18), defScope (top 18), [], []⟩
def d5 : He.DefD := ⟨("is_term", none), "is_term", "is_term", defArgs (top 19), defBody (top 19), defScope (top 19), [], []⟩
def d6 : He.DefD := ⟨("holds", none), "holds", "holds", defArgs (top 20), defBody (top 20), defScope (top 20), [], []⟩
def d7 : He.DefD := ⟨("regions_of", none), "regions_of", "regions_of", defArgs (top 21), defBody (top 21), defScope (top 21), [], []⟩
def d8 : He.DefD := ⟨("alone", none), "alone", "alone", defArgs (top 22), defBody (top 22), defScope (top 22), [], []⟩
def d9 : He.DefD := ⟨("term_for", none), "term_for", "term_for", defArgs (top 23), defBody (top 23), defScope (top 23), [], []⟩
def d10 : He.DefD := ⟨("is_addend", none), "is_addend", "is_addend", defArgs (top 26), defBody (top 26), defScope (top 26), [], []⟩
def d11 : He.DefD := ⟨("is_sum", none), "is_sum", "is_sum", defArgs (top 27), defBody (top 27), defScope (top 27), [], []⟩
def d12 : He.DefD := ⟨("row_of", none), "row_of", "row_of", defArgs (top 28), defBody (top 28), defScope (top 28), [], []⟩
def d13 : He.DefD := ⟨("sum_for", none), "sum_for", "sum_for", defArgs (top 29), defBody (top 29), defScope (top 29), [], []⟩
def d14 : He.DefD := ⟨("_law_pool", none), "_law_pool", "_law_pool", defArgs (top 35), defBody (top 35), defScope (top 35), [], []⟩
def d15 : He.DefD := ⟨("_law_take", none), "_law_take", "_law_take", defArgs (top 36), defBody (top 36), defScope (top 36), [], []⟩
def d16 : He.DefD := ⟨("_law_folded", none), "_law_folded", "_law_folded", defArgs (top 37), defBody (top 37), defScope (top 37), [], []⟩
def d17 : He.DefD := ⟨("_law_names", none), "_law_names", "_law_names", defArgs (top 38), defBody (top 38), defScope (top 38), [], []⟩
def d18 : He.DefD := ⟨("_law_tongue", none), "_law_tongue", "_law_tongue", defArgs (top 39), defBody (top 39), defScope (top 39), [], []⟩
def d19 : He.DefD := ⟨("_law_lies", none), "_law_lies", "_law_lies", defArgs (top 40), defBody (top 40), defScope (top 40), [], []⟩
def d20 : He.DefD := ⟨("_law_in", none), "_law_in", "_law_in", defArgs (top 41), defBody (top 41), defScope (top 41), [], []⟩
def d21 : He.DefD := ⟨("_law_whole", none), "_law_whole", "_law_whole", defArgs (top 42), defBody (top 42), defScope (top 42), [], []⟩
def d22 : He.DefD := ⟨("_law_great", none), "_law_great", "_law_great", defArgs (top 43), defBody (top 43), defScope (top 43), [], []⟩
def d23 : He.DefD := ⟨("_law_number", none), "_law_number", "_law_number", defArgs (top 44), defBody (top 44), defScope (top 44), [], []⟩
def d24 : He.DefD := ⟨("_law_row", none), "_law_row", "_law_row", defArgs (top 45), defBody (top 45), defScope (top 45), [], []⟩
def d25 : He.DefD := ⟨("_law_dressed", none), "_law_dressed", "_law_dressed", defArgs (top 46), defBody (top 46), defScope (top 46), [], []⟩
def d26 : He.DefD := ⟨("_law_regions", none), "_law_regions", "_law_regions", defArgs (top 47), defBody (top 47), defScope (top 47), [], []⟩
def d27 : He.DefD := ⟨("_law_sum_row", none), "_law_sum_row", "_law_sum_row", defArgs (top 48), defBody (top 48), defScope (top 48), [], []⟩
def d28 : He.DefD := ⟨("_law_parts", none), "_law_parts", "_law_parts", defArgs (top 49), defBody (top 49), defScope (top 49), [], []⟩
def d29 : He.DefD := ⟨("_law_is_addend", none), "_law_is_addend", "_law_is_addend", defArgs (top 50), defBody (top 50), defScope (top 50), [], []⟩
def d30 : He.DefD := ⟨("_law_is_sum", none), "_law_is_sum", "_law_is_sum", defArgs (top 51), defBody (top 51), defScope (top 51), [], []⟩
def d31 : He.DefD := ⟨("_law_right", none), "_law_right", "_law_right", defArgs (top 52), defBody (top 52), defScope (top 52), [], []⟩
def d32 : He.DefD := ⟨("law", none), "law", "law", defArgs (top 53), defBody (top 53), defScope (top 53), [], []⟩
def d33 : He.DefD := ⟨("Talk", some "__init__"), "__init__", "Talk.__init__", defArgs (mth 33 0), defBody (mth 33 0), defScope (mth 33 0), [.adr (He.dflAt ("Talk", some "__init__") 0), .adr (He.dflAt ("Talk", some "__init__") 1)], [("most", .int 12)]⟩
def d34 : He.DefD := ⟨("Talk", some "regions"), "regions", "Talk.regions", defArgs (mth 33 4), defBody (mth 33 4), defScope (mth 33 4), [], []⟩
def d35 : He.DefD := ⟨("Talk", some "numbers"), "numbers", "Talk.numbers", defArgs (mth 33 2), defBody (mth 33 2), defScope (mth 33 2), [], []⟩
def d36 : He.DefD := ⟨("Talk", some "__len__"), "__len__", "Talk.__len__", defArgs (mth 33 11), defBody (mth 33 11), defScope (mth 33 11), [], []⟩
def d37 : He.DefD := ⟨("Talk", some "place"), "place", "Talk.place", defArgs (mth 33 7), defBody (mth 33 7), defScope (mth 33 7), [], []⟩
def d38 : He.DefD := ⟨("Talk", some "sets"), "sets", "Talk.sets", defArgs (mth 33 1), defBody (mth 33 1), defScope (mth 33 1), [], []⟩
def d39 : He.DefD := ⟨("Talk", some "lies"), "lies", "Talk.lies", defArgs (mth 33 6), defBody (mth 33 6), defScope (mth 33 6), [], []⟩
def d40 : He.DefD := ⟨("Talk", some "need_region"), "need_region", "Talk.need_region", defArgs (mth 33 5), defBody (mth 33 5), defScope (mth 33 5), [], []⟩
def fns : List He.DefD := [d0, d1, d2, d3, d4, d5, d6, d7, d8, d9, d10, d11, d12, d13, d14, d15, d16, d17, d18, d19, d20, d21, d22, d23, d24, d25, d26, d27, d28, d29, d30, d31, d32, d33, d34, d35, d36, d37, d38, d39, d40]
theorem k0 : defB d0 s0 t0 (pss 0) = true := by decide +kernel
theorem k1 : defB d1 s1 t1 (pss 1) = true := by decide +kernel
theorem k2 : defB d2 s2 t2 (pss 2) = true := by decide +kernel
theorem k3 : defB d3 s3 t3 (pss 3) = true := by decide +kernel
theorem k4 : defB d4 s4 t4 (pss 4) = true := by decide +kernel
theorem k5 : defB d5 s5 t5 (pss 5) = true := by decide +kernel
theorem k6 : defB d6 s6 t6 (pss 6) = true := by decide +kernel
theorem k7 : defB d7 s7 t7 (pss 7) = true := by decide +kernel
theorem k8 : defB d8 s8 t8 (pss 8) = true := by decide +kernel
theorem k9 : defB d9 s9 t9 (pss 9) = true := by decide +kernel
theorem k10 : defB d10 s10 t10 (pss 10) = true := by decide +kernel
theorem k11 : defB d11 s11 t11 (pss 11) = true := by decide +kernel
theorem k12 : defB d12 s12 t12 (pss 12) = true := by decide +kernel
theorem k13 : defB d13 s13 t13 (pss 13) = true := by decide +kernel
theorem k14 : defB d14 s14 t14 (pss 14) = true := by decide +kernel
theorem k15 : defB d15 s15 t15 (pss 15) = true := by decide +kernel
theorem k16 : defB d16 s16 t16 (pss 16) = true := by decide +kernel
theorem k17 : defB d17 s17 t17 (pss 17) = true := by decide +kernel
theorem k18 : defB d18 s18 t18 (pss 18) = true := by decide +kernel
theorem k19 : defB d19 s19 t19 (pss 19) = true := by decide +kernel
theorem k20 : defB d20 s20 t20 (pss 20) = true := by decide +kernel
theorem k21 : defB d21 s21 t21 (pss 21) = true := by decide +kernel
theorem k22 : defB d22 s22 t22 (pss 22) = true := by decide +kernel
theorem k23 : defB d23 s23 t23 (pss 23) = true := by decide +kernel
theorem k24 : defB d24 s24 t24 (pss 24) = true := by decide +kernel
theorem k25 : defB d25 s25 t25 (pss 25) = true := by decide +kernel
theorem k26 : defB d26 s26 t26 (pss 26) = true := by decide +kernel
theorem k27 : defB d27 s27 t27 (pss 27) = true := by decide +kernel
theorem k28 : defB d28 s28 t28 (pss 28) = true := by decide +kernel
theorem k29 : defB d29 s29 t29 (pss 29) = true := by decide +kernel
theorem k30 : defB d30 s30 t30 (pss 30) = true := by decide +kernel
theorem k31 : defB d31 s31 t31 (pss 31) = true := by decide +kernel
theorem k32 : defB d32 s32 t32 (pss 32) = true := by decide +kernel
theorem k33 : defB d33 s33 t33 (pss 33) = true := by decide +kernel
theorem k34 : defB d34 s34 t34 (pss 34) = true := by decide +kernel
theorem k35 : defB d35 s35 t35 (pss 35) = true := by decide +kernel
theorem k36 : defB d36 s36 t36 (pss 36) = true := by decide +kernel
theorem k37 : defB d37 s37 t37 (pss 37) = true := by decide +kernel
theorem k38 : defB d38 s38 t38 (pss 38) = true := by decide +kernel
theorem k39 : defB d39 s39 t39 (pss 39) = true := by decide +kernel
theorem k40 : defB d40 s40 t40 (pss 40) = true := by decide +kernel
def TK (K : PySem.W.Frag) : Cls2 := ⟨fun c => match c with
  | 0 => He.ga K "Talk"
  | _ => 0, fun c => match c with
  | 0 => ["set_names", "number_names", "top"]
  | _ => []⟩
def kdD : Nat → List (Str × D)
  | 0 => [("none", (.int 0)), ("all", (.int 0)), ("not", (.int 1)), ("and", (.int 2)), ("or", (.int 2)), ("but", (.int 2))]
  | _ => []
def kv0 : List (Str × He.Dv) := [("none", .int 0), ("all", .int 0), ("not", .int 1), ("and", .int 2), ("or", .int 2), ("but", .int 2)]
def glD : Nat → D
  | 0 => (.int 12)
  | 1 => (.str "abcdefghijklmnopqrstuvwxyz")
  | 2 => (.int 8)
  | 3 => (.int 12)
  | 4 => (.int 100)
  | 5 => (.int 12)
  | 6 => (.int 3)
  | 7 => (.int 2)
  | _ => .non
def fa0 : List He.Fa := [.glo "_wall", .glo "is_whole", .glo "is_name", .glo "are_names", .glo "parts_of", .glo "is_term", .glo "holds", .glo "regions_of", .glo "alone", .glo "term_for", .glo "is_addend", .glo "is_sum", .glo "row_of", .glo "sum_for", .glo "_law_pool", .glo "_law_take", .glo "_law_folded", .glo "_law_names", .glo "_law_tongue", .glo "_law_lies", .glo "_law_in", .glo "_law_whole", .glo "_law_great", .glo "_law_number", .glo "_law_row", .glo "_law_dressed", .glo "_law_regions", .glo "_law_sum_row", .glo "_law_parts", .glo "_law_is_addend", .glo "_law_is_sum", .glo "_law_right", .glo "law", .int "MOST" 12, .str "LETTERS" "abcdefghijklmnopqrstuvwxyz", .int "LONGEST" 8, .int "DEEPEST" 12, .int "MOST_PARTS" 100, .int "ADDENDS" 12, .int "MOST_SETS" 3, .int "MOST_NUMBERS" 2, .glo "Talk", .cls "Talk", .noat "Talk" "set_names", .noat "Talk" "number_names", .noat "Talk" "top", .meth "Talk" "sets", .meth "Talk" "lies", .meth "Talk" "regions", .meth "Talk" "numbers", .meth "Talk" "place", .meth "Talk" "need_region", .mkr "Talk", .meth "Talk" "__len__", .glo "WORDS"]
def fa : List He.Fa := fa0 ++ bltL.map He.Fa.free
section
variable {K : PySem.W.Frag} {h : Heap} {mg : Str → Option Value} {fds : Nat → FuncData} {fd : FuncData} {f : Addr} {w : World}
theorem e0 (F : FunD K d0.name d0.qual d0.params d0.body d0.scope (d0.dvs K) (d0.kws K) f fd) : Binds K fd (pss 0) [] := F.bindsN fun _ _ _ _ _ _ us hl => match us, hl with | [_], _ => rfl
theorem e2 (F : FunD K d2.name d2.qual d2.params d2.body d2.scope (d2.dvs K) (d2.kws K) f fd) : Binds K fd (pss 2) [] := F.bindsN fun _ _ _ _ _ _ us hl => match us, hl with | [_], _ => rfl
theorem e3 (F : FunD K d3.name d3.qual d3.params d3.body d3.scope (d3.dvs K) (d3.kws K) f fd) : Binds K fd (pss 3) [] := F.bindsN fun _ _ _ _ _ _ us hl => match us, hl with | [_, _], _ => rfl
theorem e4 (F : FunD K d4.name d4.qual d4.params d4.body d4.scope (d4.dvs K) (d4.kws K) f fd) : Binds K fd (pss 4) [] := F.bindsN fun _ _ _ _ _ _ us hl => match us, hl with | [_, _, _], _ => rfl
theorem e5 (F : FunD K d5.name d5.qual d5.params d5.body d5.scope (d5.dvs K) (d5.kws K) f fd) : Binds K fd (pss 5) [] := F.bindsN fun _ _ _ _ _ _ us hl => match us, hl with | [_, _], _ => rfl
theorem e6 (F : FunD K d6.name d6.qual d6.params d6.body d6.scope (d6.dvs K) (d6.kws K) f fd) : Binds K fd (pss 6) [] := F.bindsN fun _ _ _ _ _ _ us hl => match us, hl with | [_, _, _], _ => rfl
theorem e7 (F : FunD K d7.name d7.qual d7.params d7.body d7.scope (d7.dvs K) (d7.kws K) f fd) : Binds K fd (pss 7) [] := F.bindsN fun _ _ _ _ _ _ us hl => match us, hl with | [_, _], _ => rfl
theorem e8 (F : FunD K d8.name d8.qual d8.params d8.body d8.scope (d8.dvs K) (d8.kws K) f fd) : Binds K fd (pss 8) [] := F.bindsN fun _ _ _ _ _ _ us hl => match us, hl with | [_, _], _ => rfl
theorem e9 (F : FunD K d9.name d9.qual d9.params d9.body d9.scope (d9.dvs K) (d9.kws K) f fd) : Binds K fd (pss 9) [] := F.bindsN fun _ _ _ _ _ _ us hl => match us, hl with | [_, _], _ => rfl
theorem e10 (F : FunD K d10.name d10.qual d10.params d10.body d10.scope (d10.dvs K) (d10.kws K) f fd) : Binds K fd (pss 10) [] := F.bindsN fun _ _ _ _ _ _ us hl => match us, hl with | [_, _], _ => rfl
theorem e11 (F : FunD K d11.name d11.qual d11.params d11.body d11.scope (d11.dvs K) (d11.kws K) f fd) : Binds K fd (pss 11) [] := F.bindsN fun _ _ _ _ _ _ us hl => match us, hl with | [_, _], _ => rfl
theorem e12 (F : FunD K d12.name d12.qual d12.params d12.body d12.scope (d12.dvs K) (d12.kws K) f fd) : Binds K fd (pss 12) [] := F.bindsN fun _ _ _ _ _ _ us hl => match us, hl with | [_, _], _ => rfl
theorem e13 (F : FunD K d13.name d13.qual d13.params d13.body d13.scope (d13.dvs K) (d13.kws K) f fd) : Binds K fd (pss 13) [] := F.bindsN fun _ _ _ _ _ _ us hl => match us, hl with | [_, _], _ => rfl
theorem e14 (F : FunD K d14.name d14.qual d14.params d14.body d14.scope (d14.dvs K) (d14.kws K) f fd) : Binds K fd (pss 14) [] := F.bindsN fun _ _ _ _ _ _ us hl => match us, hl with | [_, _], _ => rfl
theorem e15 (F : FunD K d15.name d15.qual d15.params d15.body d15.scope (d15.dvs K) (d15.kws K) f fd) : Binds K fd (pss 15) [] := F.bindsN fun _ _ _ _ _ _ us hl => match us, hl with | [_, _], _ => rfl
theorem e16 (F : FunD K d16.name d16.qual d16.params d16.body d16.scope (d16.dvs K) (d16.kws K) f fd) : Binds K fd (pss 16) [] := F.bindsN fun _ _ _ _ _ _ us hl => match us, hl with | [_, _], _ => rfl
theorem e17 (F : FunD K d17.name d17.qual d17.params d17.body d17.scope (d17.dvs K) (d17.kws K) f fd) : Binds K fd (pss 17) [] := F.bindsN fun _ _ _ _ _ _ us hl => match us, hl with | [_, _], _ => rfl
theorem e18 (F : FunD K d18.name d18.qual d18.params d18.body d18.scope (d18.dvs K) (d18.kws K) f fd) : Binds K fd (pss 18) [] := F.bindsN fun _ _ _ _ _ _ us hl => match us, hl with | [_, _, _], _ => rfl
theorem e19 (F : FunD K d19.name d19.qual d19.params d19.body d19.scope (d19.dvs K) (d19.kws K) f fd) : Binds K fd (pss 19) [] := F.bindsN fun _ _ _ _ _ _ us hl => match us, hl with | [_, _, _], _ => rfl
theorem e20 (F : FunD K d20.name d20.qual d20.params d20.body d20.scope (d20.dvs K) (d20.kws K) f fd) : Binds K fd (pss 20) [] := F.bindsN fun _ _ _ _ _ _ us hl => match us, hl with | [_, _, _], _ => rfl
theorem e21 (F : FunD K d21.name d21.qual d21.params d21.body d21.scope (d21.dvs K) (d21.kws K) f fd) : Binds K fd (pss 21) [] := F.bindsN fun _ _ _ _ _ _ us hl => match us, hl with | [_], _ => rfl
theorem e22 (F : FunD K d22.name d22.qual d22.params d22.body d22.scope (d22.dvs K) (d22.kws K) f fd) : Binds K fd (pss 22) [] := F.bindsN fun _ _ _ _ _ _ us hl => match us, hl with | [_], _ => rfl
theorem e23 (F : FunD K d23.name d23.qual d23.params d23.body d23.scope (d23.dvs K) (d23.kws K) f fd) : Binds K fd (pss 23) [] := F.bindsN fun _ _ _ _ _ _ us hl => match us, hl with | [_], _ => rfl
theorem e24 (F : FunD K d24.name d24.qual d24.params d24.body d24.scope (d24.dvs K) (d24.kws K) f fd) : Binds K fd (pss 24) [] := F.bindsN fun _ _ _ _ _ _ us hl => match us, hl with | [_, _], _ => rfl
theorem e25 (F : FunD K d25.name d25.qual d25.params d25.body d25.scope (d25.dvs K) (d25.kws K) f fd) : Binds K fd (pss 25) [] := F.bindsN fun _ _ _ _ _ _ us hl => match us, hl with | [_, _], _ => rfl
theorem e26 (F : FunD K d26.name d26.qual d26.params d26.body d26.scope (d26.dvs K) (d26.kws K) f fd) : Binds K fd (pss 26) [] := F.bindsN fun _ _ _ _ _ _ us hl => match us, hl with | [_], _ => rfl
theorem e27 (F : FunD K d27.name d27.qual d27.params d27.body d27.scope (d27.dvs K) (d27.kws K) f fd) : Binds K fd (pss 27) [] := F.bindsN fun _ _ _ _ _ _ us hl => match us, hl with | [_, _], _ => rfl
theorem e28 (F : FunD K d28.name d28.qual d28.params d28.body d28.scope (d28.dvs K) (d28.kws K) f fd) : Binds K fd (pss 28) [] := F.bindsN fun _ _ _ _ _ _ us hl => match us, hl with | [_, _, _], _ => rfl
theorem e29 (F : FunD K d29.name d29.qual d29.params d29.body d29.scope (d29.dvs K) (d29.kws K) f fd) : Binds K fd (pss 29) [] := F.bindsN fun _ _ _ _ _ _ us hl => match us, hl with | [_, _], _ => rfl
theorem e30 (F : FunD K d30.name d30.qual d30.params d30.body d30.scope (d30.dvs K) (d30.kws K) f fd) : Binds K fd (pss 30) [] := F.bindsN fun _ _ _ _ _ _ us hl => match us, hl with | [_, _], _ => rfl
theorem e31 (F : FunD K d31.name d31.qual d31.params d31.body d31.scope (d31.dvs K) (d31.kws K) f fd) : Binds K fd (pss 31) [] := F.bindsN fun _ _ _ _ _ _ us hl => match us, hl with | [_], _ => rfl
theorem e32 (F : FunD K d32.name d32.qual d32.params d32.body d32.scope (d32.dvs K) (d32.kws K) f fd) : Binds K fd (pss 32) [] := F.bindsN fun _ _ _ _ _ _ us hl => match us, hl with | [_], _ => rfl
theorem e34 (F : FunD K d34.name d34.qual d34.params d34.body d34.scope (d34.dvs K) (d34.kws K) f fd) : Binds K fd (pss 34) [] := F.bindsN fun _ _ _ _ _ _ us hl => match us, hl with | [_], _ => rfl
theorem e35 (F : FunD K d35.name d35.qual d35.params d35.body d35.scope (d35.dvs K) (d35.kws K) f fd) : Binds K fd (pss 35) [] := F.bindsN fun _ _ _ _ _ _ us hl => match us, hl with | [_], _ => rfl
theorem e36 (F : FunD K d36.name d36.qual d36.params d36.body d36.scope (d36.dvs K) (d36.kws K) f fd) : Binds K fd (pss 36) [] := F.bindsN fun _ _ _ _ _ _ us hl => match us, hl with | [_], _ => rfl
theorem e37 (F : FunD K d37.name d37.qual d37.params d37.body d37.scope (d37.dvs K) (d37.kws K) f fd) : Binds K fd (pss 37) [] := F.bindsN fun _ _ _ _ _ _ us hl => match us, hl with | [_, _], _ => rfl
theorem e38 (F : FunD K d38.name d38.qual d38.params d38.body d38.scope (d38.dvs K) (d38.kws K) f fd) : Binds K fd (pss 38) [] := F.bindsN fun _ _ _ _ _ _ us hl => match us, hl with | [_], _ => rfl
theorem e39 (F : FunD K d39.name d39.qual d39.params d39.body d39.scope (d39.dvs K) (d39.kws K) f fd) : Binds K fd (pss 39) [] := F.bindsN fun _ _ _ _ _ _ us hl => match us, hl with | [_, _, _], _ => rfl
theorem e40 (F : FunD K d40.name d40.qual d40.params d40.body d40.scope (d40.dvs K) (d40.kws K) f fd) : Binds K fd (pss 40) [] := F.bindsN fun _ _ _ _ _ _ us hl => match us, hl with | [_, _], _ => rfl
theorem q4 (F : FunD K d1.name d1.qual d1.params d1.body d1.scope (d1.dvs K) (d1.kws K) f fd) : PatK (TK K) K fd (pss 1) ⟨1, "is_whole", 1, ["least", "most"], [.arg 0, .arg 1, .arg 2]⟩ :=
  pat_kw F [] (by intro h; cases h) (fun _ h => nomatch h) rfl (by decide) (by decide) rfl fun _ _ _ _ _ _ us mv ws h1 h2 h3 => match us, mv, ws, h1, h2, h3 with | [_], [], [_, _], _, _, _ => rfl
theorem q6 (F : FunD K d1.name d1.qual d1.params d1.body d1.scope (d1.dvs K) (d1.kws K) f fd) : PatK (TK K) K fd (pss 1) ⟨1, "is_whole", 1, [], [.arg 0, .con .non, .con .non]⟩ :=
  pat_kw F [("least", .non), ("most", .non)] (by intro h; cases h) (List.forall_mem_cons.mpr ⟨List.mem_of_getElem? (i := 0) rfl, (List.forall_mem_cons.mpr ⟨List.mem_of_getElem? (i := 1) rfl, (fun _ h => nomatch h)⟩)⟩) rfl (by decide) (by decide) rfl fun _ _ _ _ _ _ us mv ws h1 h2 h3 => match us, mv, ws, h1, h2, h3 with | [_], [_, _], [], _, _, _ => ⟨_, _, _, _, _, _, rfl, rfl, ⟨_, _, _, _, _, _, rfl, rfl, rfl⟩⟩
theorem q24 (F : FunD K d13.name d13.qual d13.params d13.body d13.scope (d13.dvs K) (d13.kws K) f fd) : PatK (TK K) K fd (pss 13) ⟨13, "sum_for", 0, ["talk", "row"], [.arg 0, .arg 1]⟩ :=
  pat_kwN F rfl (by decide) (by decide) rfl fun _ _ _ _ _ _ us ws h1 h2 => match us, ws, h1, h2 with | [], [_, _], _, _ => rfl
theorem q32 (F : FunD K d1.name d1.qual d1.params d1.body d1.scope (d1.dvs K) (d1.kws K) f fd) : PatK (TK K) K fd (pss 1) ⟨1, "is_whole", 1, ["least"], [.arg 0, .arg 1, .con .non]⟩ :=
  pat_kw F [("most", .non)] (by intro h; cases h) (List.forall_mem_cons.mpr ⟨List.mem_of_getElem? (i := 1) rfl, (fun _ h => nomatch h)⟩) rfl (by decide) (by decide) rfl fun _ _ _ _ _ _ us mv ws h1 h2 h3 => match us, mv, ws, h1, h2, h3 with | [_], [_], [_], _, _, _ => ⟨_, _, _, _, _, _, rfl, rfl, rfl⟩
theorem qk0 (F : FunD K d33.name d33.qual d33.params d33.body d33.scope (d33.dvs K) (d33.kws K) f fd) : PatK (TK K) K fd (pss 33) ⟨33, "Talk", 3, ["most"], [.arg 0, .arg 1, .arg 2, .arg 3]⟩ :=
  pat_kwD F [] (by intro h; cases h) (by intro h; cases h) (fun _ h => nomatch h) rfl (by decide) (by decide) rfl fun _ _ _ _ _ _ _ us its mv ws h1 hi h2 h3 => match us, its, mv, ws, h1, hi, h2, h3 with | [_, _, _], [_, _], [], [_], _, _, _, _ => ⟨_, rfl, rfl⟩
theorem way_ok (X : K.In h) (G : h.Ns mainGlobals mg) (c : He.SaysD fa fns K) (F : ∀ (i : Nat) (d : He.DefD), fns[i]? = some d → FunD K d.name d.qual d.params d.body d.scope (d.dvs K) (d.kws K) (He.fAd K d.at_) (fds i)) :
    ∀ p ∈ ways, ∃ e, fns[p.f]? = some e ∧ mg p.nm = some (.ref (He.fAd K e.at_)) ∧ PatK (TK K) K (fds p.f) (pss p.f) p := by
  refine List.forall_mem_cons.mpr ⟨⟨d2, rfl, glo_at X G c (List.mem_append_left _ (List.mem_of_getElem? (i := 2) rfl)), pat_pos (e2 (F 2 d2 rfl))⟩, ?_⟩
  refine List.forall_mem_cons.mpr ⟨⟨d4, rfl, glo_at X G c (List.mem_append_left _ (List.mem_of_getElem? (i := 4) rfl)), pat_pos (e4 (F 4 d4 rfl))⟩, ?_⟩
  refine List.forall_mem_cons.mpr ⟨⟨d6, rfl, glo_at X G c (List.mem_append_left _ (List.mem_of_getElem? (i := 6) rfl)), pat_pos (e6 (F 6 d6 rfl))⟩, ?_⟩
  refine List.forall_mem_cons.mpr ⟨⟨d8, rfl, glo_at X G c (List.mem_append_left _ (List.mem_of_getElem? (i := 8) rfl)), pat_pos (e8 (F 8 d8 rfl))⟩, ?_⟩
  refine List.forall_mem_cons.mpr ⟨⟨d1, rfl, glo_at X G c (List.mem_append_left _ (List.mem_of_getElem? (i := 1) rfl)), q4 (F 1 d1 rfl)⟩, ?_⟩
  refine List.forall_mem_cons.mpr ⟨⟨d5, rfl, glo_at X G c (List.mem_append_left _ (List.mem_of_getElem? (i := 5) rfl)), pat_pos (e5 (F 5 d5 rfl))⟩, ?_⟩
  refine List.forall_mem_cons.mpr ⟨⟨d1, rfl, glo_at X G c (List.mem_append_left _ (List.mem_of_getElem? (i := 1) rfl)), q6 (F 1 d1 rfl)⟩, ?_⟩
  refine List.forall_mem_cons.mpr ⟨⟨d10, rfl, glo_at X G c (List.mem_append_left _ (List.mem_of_getElem? (i := 10) rfl)), pat_pos (e10 (F 10 d10 rfl))⟩, ?_⟩
  refine List.forall_mem_cons.mpr ⟨⟨d7, rfl, glo_at X G c (List.mem_append_left _ (List.mem_of_getElem? (i := 7) rfl)), pat_pos (e7 (F 7 d7 rfl))⟩, ?_⟩
  refine List.forall_mem_cons.mpr ⟨⟨d9, rfl, glo_at X G c (List.mem_append_left _ (List.mem_of_getElem? (i := 9) rfl)), pat_pos (e9 (F 9 d9 rfl))⟩, ?_⟩
  refine List.forall_mem_cons.mpr ⟨⟨d15, rfl, glo_at X G c (List.mem_append_left _ (List.mem_of_getElem? (i := 15) rfl)), pat_pos (e15 (F 15 d15 rfl))⟩, ?_⟩
  refine List.forall_mem_cons.mpr ⟨⟨d17, rfl, glo_at X G c (List.mem_append_left _ (List.mem_of_getElem? (i := 17) rfl)), pat_pos (e17 (F 17 d17 rfl))⟩, ?_⟩
  refine List.forall_mem_cons.mpr ⟨⟨d20, rfl, glo_at X G c (List.mem_append_left _ (List.mem_of_getElem? (i := 20) rfl)), pat_pos (e20 (F 20 d20 rfl))⟩, ?_⟩
  refine List.forall_mem_cons.mpr ⟨⟨d19, rfl, glo_at X G c (List.mem_append_left _ (List.mem_of_getElem? (i := 19) rfl)), pat_pos (e19 (F 19 d19 rfl))⟩, ?_⟩
  refine List.forall_mem_cons.mpr ⟨⟨d22, rfl, glo_at X G c (List.mem_append_left _ (List.mem_of_getElem? (i := 22) rfl)), pat_pos (e22 (F 22 d22 rfl))⟩, ?_⟩
  refine List.forall_mem_cons.mpr ⟨⟨d23, rfl, glo_at X G c (List.mem_append_left _ (List.mem_of_getElem? (i := 23) rfl)), pat_pos (e23 (F 23 d23 rfl))⟩, ?_⟩
  refine List.forall_mem_cons.mpr ⟨⟨d26, rfl, glo_at X G c (List.mem_append_left _ (List.mem_of_getElem? (i := 26) rfl)), pat_pos (e26 (F 26 d26 rfl))⟩, ?_⟩
  refine List.forall_mem_cons.mpr ⟨⟨d28, rfl, glo_at X G c (List.mem_append_left _ (List.mem_of_getElem? (i := 28) rfl)), pat_pos (e28 (F 28 d28 rfl))⟩, ?_⟩
  refine List.forall_mem_cons.mpr ⟨⟨d21, rfl, glo_at X G c (List.mem_append_left _ (List.mem_of_getElem? (i := 21) rfl)), pat_pos (e21 (F 21 d21 rfl))⟩, ?_⟩
  refine List.forall_mem_cons.mpr ⟨⟨d29, rfl, glo_at X G c (List.mem_append_left _ (List.mem_of_getElem? (i := 29) rfl)), pat_pos (e29 (F 29 d29 rfl))⟩, ?_⟩
  refine List.forall_mem_cons.mpr ⟨⟨d27, rfl, glo_at X G c (List.mem_append_left _ (List.mem_of_getElem? (i := 27) rfl)), pat_pos (e27 (F 27 d27 rfl))⟩, ?_⟩
  refine List.forall_mem_cons.mpr ⟨⟨d13, rfl, glo_at X G c (List.mem_append_left _ (List.mem_of_getElem? (i := 13) rfl)), pat_pos (e13 (F 13 d13 rfl))⟩, ?_⟩
  refine List.forall_mem_cons.mpr ⟨⟨d11, rfl, glo_at X G c (List.mem_append_left _ (List.mem_of_getElem? (i := 11) rfl)), pat_pos (e11 (F 11 d11 rfl))⟩, ?_⟩
  refine List.forall_mem_cons.mpr ⟨⟨d12, rfl, glo_at X G c (List.mem_append_left _ (List.mem_of_getElem? (i := 12) rfl)), pat_pos (e12 (F 12 d12 rfl))⟩, ?_⟩
  refine List.forall_mem_cons.mpr ⟨⟨d13, rfl, glo_at X G c (List.mem_append_left _ (List.mem_of_getElem? (i := 13) rfl)), q24 (F 13 d13 rfl)⟩, ?_⟩
  refine List.forall_mem_cons.mpr ⟨⟨d30, rfl, glo_at X G c (List.mem_append_left _ (List.mem_of_getElem? (i := 30) rfl)), pat_pos (e30 (F 30 d30 rfl))⟩, ?_⟩
  refine List.forall_mem_cons.mpr ⟨⟨d25, rfl, glo_at X G c (List.mem_append_left _ (List.mem_of_getElem? (i := 25) rfl)), pat_pos (e25 (F 25 d25 rfl))⟩, ?_⟩
  refine List.forall_mem_cons.mpr ⟨⟨d24, rfl, glo_at X G c (List.mem_append_left _ (List.mem_of_getElem? (i := 24) rfl)), pat_pos (e24 (F 24 d24 rfl))⟩, ?_⟩
  refine List.forall_mem_cons.mpr ⟨⟨d18, rfl, glo_at X G c (List.mem_append_left _ (List.mem_of_getElem? (i := 18) rfl)), pat_pos (e18 (F 18 d18 rfl))⟩, ?_⟩
  refine List.forall_mem_cons.mpr ⟨⟨d31, rfl, glo_at X G c (List.mem_append_left _ (List.mem_of_getElem? (i := 31) rfl)), pat_pos (e31 (F 31 d31 rfl))⟩, ?_⟩
  refine List.forall_mem_cons.mpr ⟨⟨d14, rfl, glo_at X G c (List.mem_append_left _ (List.mem_of_getElem? (i := 14) rfl)), pat_pos (e14 (F 14 d14 rfl))⟩, ?_⟩
  refine List.forall_mem_cons.mpr ⟨⟨d16, rfl, glo_at X G c (List.mem_append_left _ (List.mem_of_getElem? (i := 16) rfl)), pat_pos (e16 (F 16 d16 rfl))⟩, ?_⟩
  refine List.forall_mem_cons.mpr ⟨⟨d1, rfl, glo_at X G c (List.mem_append_left _ (List.mem_of_getElem? (i := 1) rfl)), q32 (F 1 d1 rfl)⟩, ?_⟩
  refine List.forall_mem_cons.mpr ⟨⟨d3, rfl, glo_at X G c (List.mem_append_left _ (List.mem_of_getElem? (i := 3) rfl)), pat_pos (e3 (F 3 d3 rfl))⟩, ?_⟩
  exact fun p hp => nomatch hp
def tabs : List He.Tab := [(fun K => He.ga K "WORDS", ["none", "all", "not", "and", "or", "but"])]
def more (K : PySem.W.Frag) : Bool := He.valsB K (He.ga K "WORDS") kv0
theorem mts_ok (X : K.In h) (G : h.Ns mainGlobals mg) (c : SaysE fa fns tabs more w K) (F : ∀ (i : Nat) (d : He.DefD), fns[i]? = some d → FunD K d.name d.qual d.params d.body d.scope (d.dvs K) (d.kws K) (He.fAd K d.at_) (fds i)) :
    ∀ p ∈ mtsL, ∃ e, fns[p.fi.f]? = some e ∧ Cls K ((TK K).cls p.c) ∧ (∀ xs : List V, (((TK K).flds p.c).zip xs).lookup p.fi.nm = none) ∧ Meth K ((TK K).cls p.c) p.fi.nm (He.fAd K e.at_) ∧ PatK (TK K) K (fds p.fi.f) (pss p.fi.f) p.fi := by
  refine List.forall_mem_cons.mpr ⟨⟨d38, rfl, He.cls_ok (fact_in c.t.d (f := .cls "Talk") (List.mem_append_left _ (List.mem_of_getElem? (i := 42) rfl))), fun xs => lookup_no (by show List.any (["set_names", "number_names", "top"] : List Str) (sq "sets") = false; decide +kernel) xs, He.meth_ok (fact_in c.t.d (f := .meth "Talk" "sets") (List.mem_append_left _ (List.mem_of_getElem? (i := 46) rfl))), pat_pos (e38 (F 38 d38 rfl))⟩, ?_⟩
  refine List.forall_mem_cons.mpr ⟨⟨d39, rfl, He.cls_ok (fact_in c.t.d (f := .cls "Talk") (List.mem_append_left _ (List.mem_of_getElem? (i := 42) rfl))), fun xs => lookup_no (by show List.any (["set_names", "number_names", "top"] : List Str) (sq "lies") = false; decide +kernel) xs, He.meth_ok (fact_in c.t.d (f := .meth "Talk" "lies") (List.mem_append_left _ (List.mem_of_getElem? (i := 47) rfl))), pat_pos (e39 (F 39 d39 rfl))⟩, ?_⟩
  refine List.forall_mem_cons.mpr ⟨⟨d34, rfl, He.cls_ok (fact_in c.t.d (f := .cls "Talk") (List.mem_append_left _ (List.mem_of_getElem? (i := 42) rfl))), fun xs => lookup_no (by show List.any (["set_names", "number_names", "top"] : List Str) (sq "regions") = false; decide +kernel) xs, He.meth_ok (fact_in c.t.d (f := .meth "Talk" "regions") (List.mem_append_left _ (List.mem_of_getElem? (i := 48) rfl))), pat_pos (e34 (F 34 d34 rfl))⟩, ?_⟩
  refine List.forall_mem_cons.mpr ⟨⟨d35, rfl, He.cls_ok (fact_in c.t.d (f := .cls "Talk") (List.mem_append_left _ (List.mem_of_getElem? (i := 42) rfl))), fun xs => lookup_no (by show List.any (["set_names", "number_names", "top"] : List Str) (sq "numbers") = false; decide +kernel) xs, He.meth_ok (fact_in c.t.d (f := .meth "Talk" "numbers") (List.mem_append_left _ (List.mem_of_getElem? (i := 49) rfl))), pat_pos (e35 (F 35 d35 rfl))⟩, ?_⟩
  refine List.forall_mem_cons.mpr ⟨⟨d37, rfl, He.cls_ok (fact_in c.t.d (f := .cls "Talk") (List.mem_append_left _ (List.mem_of_getElem? (i := 42) rfl))), fun xs => lookup_no (by show List.any (["set_names", "number_names", "top"] : List Str) (sq "place") = false; decide +kernel) xs, He.meth_ok (fact_in c.t.d (f := .meth "Talk" "place") (List.mem_append_left _ (List.mem_of_getElem? (i := 50) rfl))), pat_pos (e37 (F 37 d37 rfl))⟩, ?_⟩
  refine List.forall_mem_cons.mpr ⟨⟨d40, rfl, He.cls_ok (fact_in c.t.d (f := .cls "Talk") (List.mem_append_left _ (List.mem_of_getElem? (i := 42) rfl))), fun xs => lookup_no (by show List.any (["set_names", "number_names", "top"] : List Str) (sq "need_region") = false; decide +kernel) xs, He.meth_ok (fact_in c.t.d (f := .meth "Talk" "need_region") (List.mem_append_left _ (List.mem_of_getElem? (i := 51) rfl))), pat_pos (e40 (F 40 d40 rfl))⟩, ?_⟩
  exact fun p hp => nomatch hp
theorem mks_ok (X : K.In h) (G : h.Ns mainGlobals mg) (c : SaysE fa fns tabs more w K) (F : ∀ (i : Nat) (d : He.DefD), fns[i]? = some d → FunD K d.name d.qual d.params d.body d.scope (d.dvs K) (d.kws K) (He.fAd K d.at_) (fds i)) :
    ∀ p ∈ mksL, ∃ e, fns[p.fi.f]? = some e ∧ mg p.fi.nm = some (.ref ((TK K).cls p.c)) ∧ Mk K ((TK K).cls p.c) (He.fAd K e.at_) ∧ PatK (TK K) K (fds p.fi.f) (pss p.fi.f) p.fi ∧ p.fi.src[0]? = some (.arg 0) := by
  refine List.forall_mem_cons.mpr ⟨⟨d33, rfl, glo_at X G c.t.d (List.mem_append_left _ (List.mem_of_getElem? (i := 41) rfl)), He.mkr_ok (fact_in c.t.d (f := .mkr "Talk") (List.mem_append_left _ (List.mem_of_getElem? (i := 52) rfl))), qk0 (F 33 d33 rfl), rfl⟩, ?_⟩
  exact fun p hp => nomatch hp
theorem says_ (w : World) (K : PySem.W.Frag) (h : Heap) (mg : Str → Option Value) (X : K.In h) (G : h.Ns mainGlobals mg) (c : SaysE fa fns tabs more w K) : ∃ fds, Says (TK K) w K mg fns fds sts tms pss glD kdD := by
  obtain ⟨fds, F⟩ := funs_at c.t.d (j := 32) (d0 := d32) rfl
  refine ⟨fds, F, fun i d e => ?_, fun i d e p hp => ?_, blt_at X G c.t.d fun x hx => List.mem_append_right _ (List.mem_map_of_mem hx), fun i d e p hp => ?_, fun i d e p hp => ?_, fun i d e p hp => ?_, fun i d e p hp => ?_, fun i d e p hp => ?_, fun i d e p hp => ?_⟩
  · match i, e with
    | 0, e => cases e; exact defB_ok rfl k0
    | 1, e => cases e; exact defB_ok rfl k1
    | 2, e => cases e; exact defB_ok rfl k2
    | 3, e => cases e; exact defB_ok rfl k3
    | 4, e => cases e; exact defB_ok rfl k4
    | 5, e => cases e; exact defB_ok rfl k5
    | 6, e => cases e; exact defB_ok rfl k6
    | 7, e => cases e; exact defB_ok rfl k7
    | 8, e => cases e; exact defB_ok rfl k8
    | 9, e => cases e; exact defB_ok rfl k9
    | 10, e => cases e; exact defB_ok rfl k10
    | 11, e => cases e; exact defB_ok rfl k11
    | 12, e => cases e; exact defB_ok rfl k12
    | 13, e => cases e; exact defB_ok rfl k13
    | 14, e => cases e; exact defB_ok rfl k14
    | 15, e => cases e; exact defB_ok rfl k15
    | 16, e => cases e; exact defB_ok rfl k16
    | 17, e => cases e; exact defB_ok rfl k17
    | 18, e => cases e; exact defB_ok rfl k18
    | 19, e => cases e; exact defB_ok rfl k19
    | 20, e => cases e; exact defB_ok rfl k20
    | 21, e => cases e; exact defB_ok rfl k21
    | 22, e => cases e; exact defB_ok rfl k22
    | 23, e => cases e; exact defB_ok rfl k23
    | 24, e => cases e; exact defB_ok rfl k24
    | 25, e => cases e; exact defB_ok rfl k25
    | 26, e => cases e; exact defB_ok rfl k26
    | 27, e => cases e; exact defB_ok rfl k27
    | 28, e => cases e; exact defB_ok rfl k28
    | 29, e => cases e; exact defB_ok rfl k29
    | 30, e => cases e; exact defB_ok rfl k30
    | 31, e => cases e; exact defB_ok rfl k31
    | 32, e => cases e; exact defB_ok rfl k32
    | 33, e => cases e; exact defB_ok rfl k33
    | 34, e => cases e; exact defB_ok rfl k34
    | 35, e => cases e; exact defB_ok rfl k35
    | 36, e => cases e; exact defB_ok rfl k36
    | 37, e => cases e; exact defB_ok rfl k37
    | 38, e => cases e; exact defB_ok rfl k38
    | 39, e => cases e; exact defB_ok rfl k39
    | 40, e => cases e; exact defB_ok rfl k40
    | i + 41, e => cases e
  · have hp : p ∈ ways := by
      match i, e with
      | 0, e => exact hp
      | 1, e => exact hp
      | 2, e => exact hp
      | 3, e => exact hp
      | 4, e => exact hp
      | 5, e => exact hp
      | 6, e => exact hp
      | 7, e => exact hp
      | 8, e => exact hp
      | 9, e => exact hp
      | 10, e => exact hp
      | 11, e => exact hp
      | 12, e => exact hp
      | 13, e => exact hp
      | 14, e => exact hp
      | 15, e => exact hp
      | 16, e => exact hp
      | 17, e => exact hp
      | 18, e => exact hp
      | 19, e => exact hp
      | 20, e => exact hp
      | 21, e => exact hp
      | 22, e => exact hp
      | 23, e => exact hp
      | 24, e => exact hp
      | 25, e => exact hp
      | 26, e => exact hp
      | 27, e => exact hp
      | 28, e => exact hp
      | 29, e => exact hp
      | 30, e => exact hp
      | 31, e => exact hp
      | 32, e => exact hp
      | 33, e => exact hp
      | 34, e => exact hp
      | 35, e => exact hp
      | 36, e => exact hp
      | 37, e => exact hp
      | 38, e => exact hp
      | 39, e => exact hp
      | 40, e => exact hp
      | i + 41, e => cases e
    exact way_ok X G c.t.d F p hp
  · have hp : p ∈ gls := by
      match i, e with
      | 0, e => exact hp
      | 1, e => exact hp
      | 2, e => exact hp
      | 3, e => exact hp
      | 4, e => exact hp
      | 5, e => exact hp
      | 6, e => exact hp
      | 7, e => exact hp
      | 8, e => exact hp
      | 9, e => exact hp
      | 10, e => exact hp
      | 11, e => exact hp
      | 12, e => exact hp
      | 13, e => exact hp
      | 14, e => exact hp
      | 15, e => exact hp
      | 16, e => exact hp
      | 17, e => exact hp
      | 18, e => exact hp
      | 19, e => exact hp
      | 20, e => exact hp
      | 21, e => exact hp
      | 22, e => exact hp
      | 23, e => exact hp
      | 24, e => exact hp
      | 25, e => exact hp
      | 26, e => exact hp
      | 27, e => exact hp
      | 28, e => exact hp
      | 29, e => exact hp
      | 30, e => exact hp
      | 31, e => exact hp
      | 32, e => exact hp
      | 33, e => exact hp
      | 34, e => exact hp
      | 35, e => exact hp
      | 36, e => exact hp
      | 37, e => exact hp
      | 38, e => exact hp
      | 39, e => exact hp
      | 40, e => exact hp
      | i + 41, e => cases e
    revert p
    intro p hp0 hp
    clear hp0
    revert p
    refine List.forall_mem_cons.mpr ⟨?_, ?_⟩
    · obtain ⟨t, ht⟩ := He.int_ok X G (fact_in c.t.d (f := .int "MOST" 12) (List.mem_append_left _ (List.mem_of_getElem? (i := 33) rfl)))
      exact ⟨.int 12, _, ht, ⟨t, rfl⟩, fun _ _ => rint⟩
    refine List.forall_mem_cons.mpr ⟨?_, ?_⟩
    · obtain ⟨t, ht⟩ := He.str_ok X G (fact_in c.t.d (f := .str "LETTERS" "abcdefghijklmnopqrstuvwxyz") (List.mem_append_left _ (List.mem_of_getElem? (i := 34) rfl)))
      exact ⟨.str "abcdefghijklmnopqrstuvwxyz", _, ht, ⟨t, rfl⟩, fun _ _ => rstr⟩
    refine List.forall_mem_cons.mpr ⟨?_, ?_⟩
    · obtain ⟨t, ht⟩ := He.int_ok X G (fact_in c.t.d (f := .int "LONGEST" 8) (List.mem_append_left _ (List.mem_of_getElem? (i := 35) rfl)))
      exact ⟨.int 8, _, ht, ⟨t, rfl⟩, fun _ _ => rint⟩
    refine List.forall_mem_cons.mpr ⟨?_, ?_⟩
    · obtain ⟨t, ht⟩ := He.int_ok X G (fact_in c.t.d (f := .int "DEEPEST" 12) (List.mem_append_left _ (List.mem_of_getElem? (i := 36) rfl)))
      exact ⟨.int 12, _, ht, ⟨t, rfl⟩, fun _ _ => rint⟩
    refine List.forall_mem_cons.mpr ⟨?_, ?_⟩
    · obtain ⟨t, ht⟩ := He.int_ok X G (fact_in c.t.d (f := .int "MOST_PARTS" 100) (List.mem_append_left _ (List.mem_of_getElem? (i := 37) rfl)))
      exact ⟨.int 100, _, ht, ⟨t, rfl⟩, fun _ _ => rint⟩
    refine List.forall_mem_cons.mpr ⟨?_, ?_⟩
    · obtain ⟨t, ht⟩ := He.int_ok X G (fact_in c.t.d (f := .int "ADDENDS" 12) (List.mem_append_left _ (List.mem_of_getElem? (i := 38) rfl)))
      exact ⟨.int 12, _, ht, ⟨t, rfl⟩, fun _ _ => rint⟩
    refine List.forall_mem_cons.mpr ⟨?_, ?_⟩
    · obtain ⟨t, ht⟩ := He.int_ok X G (fact_in c.t.d (f := .int "MOST_SETS" 3) (List.mem_append_left _ (List.mem_of_getElem? (i := 39) rfl)))
      exact ⟨.int 3, _, ht, ⟨t, rfl⟩, fun _ _ => rint⟩
    refine List.forall_mem_cons.mpr ⟨?_, ?_⟩
    · obtain ⟨t, ht⟩ := He.int_ok X G (fact_in c.t.d (f := .int "MOST_NUMBERS" 2) (List.mem_append_left _ (List.mem_of_getElem? (i := 40) rfl)))
      exact ⟨.int 2, _, ht, ⟨t, rfl⟩, fun _ _ => rint⟩
    exact fun p hp => nomatch hp
  · have hp : p ∈ clsL := by
      match i, e with
      | 0, e => exact hp
      | 1, e => exact hp
      | 2, e => exact hp
      | 3, e => exact hp
      | 4, e => exact hp
      | 5, e => exact hp
      | 6, e => exact hp
      | 7, e => exact hp
      | 8, e => exact hp
      | 9, e => exact hp
      | 10, e => exact hp
      | 11, e => exact hp
      | 12, e => exact hp
      | 13, e => exact hp
      | 14, e => exact hp
      | 15, e => exact hp
      | 16, e => exact hp
      | 17, e => exact hp
      | 18, e => exact hp
      | 19, e => exact hp
      | 20, e => exact hp
      | 21, e => exact hp
      | 22, e => exact hp
      | 23, e => exact hp
      | 24, e => exact hp
      | 25, e => exact hp
      | 26, e => exact hp
      | 27, e => exact hp
      | 28, e => exact hp
      | 29, e => exact hp
      | 30, e => exact hp
      | 31, e => exact hp
      | 32, e => exact hp
      | 33, e => exact hp
      | 34, e => exact hp
      | 35, e => exact hp
      | 36, e => exact hp
      | 37, e => exact hp
      | 38, e => exact hp
      | 39, e => exact hp
      | 40, e => exact hp
      | i + 41, e => cases e
    revert p
    intro p hp0 hp
    clear hp0
    revert p
    refine List.forall_mem_cons.mpr ⟨⟨rfl, He.cls_ok (fact_in c.t.d (f := .cls "Talk") (List.mem_append_left _ (List.mem_of_getElem? (i := 42) rfl))), List.forall_mem_cons.mpr ⟨He.noat_ok (fact_in c.t.d (f := .noat "Talk" "set_names") (List.mem_append_left _ (List.mem_of_getElem? (i := 43) rfl))), List.forall_mem_cons.mpr ⟨He.noat_ok (fact_in c.t.d (f := .noat "Talk" "number_names") (List.mem_append_left _ (List.mem_of_getElem? (i := 44) rfl))), List.forall_mem_cons.mpr ⟨He.noat_ok (fact_in c.t.d (f := .noat "Talk" "top") (List.mem_append_left _ (List.mem_of_getElem? (i := 45) rfl))), fun f hf => nomatch hf⟩⟩⟩, ndB_ok (by show ndB ["set_names", "number_names", "top"] = true; decide +kernel), by show List.length (["set_names", "number_names", "top"] : List Str) ≤ 900; decide +kernel⟩, ?_⟩
    exact fun p hp => nomatch hp
  · have hp : p ∈ mtsL := by
      match i, e with
      | 0, e => exact hp
      | 1, e => exact hp
      | 2, e => exact hp
      | 3, e => exact hp
      | 4, e => exact hp
      | 5, e => exact hp
      | 6, e => exact hp
      | 7, e => exact hp
      | 8, e => exact hp
      | 9, e => exact hp
      | 10, e => exact hp
      | 11, e => exact hp
      | 12, e => exact hp
      | 13, e => exact hp
      | 14, e => exact hp
      | 15, e => exact hp
      | 16, e => exact hp
      | 17, e => exact hp
      | 18, e => exact hp
      | 19, e => exact hp
      | 20, e => exact hp
      | 21, e => exact hp
      | 22, e => exact hp
      | 23, e => exact hp
      | 24, e => exact hp
      | 25, e => exact hp
      | 26, e => exact hp
      | 27, e => exact hp
      | 28, e => exact hp
      | 29, e => exact hp
      | 30, e => exact hp
      | 31, e => exact hp
      | 32, e => exact hp
      | 33, e => exact hp
      | 34, e => exact hp
      | 35, e => exact hp
      | 36, e => exact hp
      | 37, e => exact hp
      | 38, e => exact hp
      | 39, e => exact hp
      | 40, e => exact hp
      | i + 41, e => cases e
    exact mts_ok X G c F p hp
  · have hp : p ∈ mksL := by
      match i, e with
      | 0, e => exact hp
      | 1, e => exact hp
      | 2, e => exact hp
      | 3, e => exact hp
      | 4, e => exact hp
      | 5, e => exact hp
      | 6, e => exact hp
      | 7, e => exact hp
      | 8, e => exact hp
      | 9, e => exact hp
      | 10, e => exact hp
      | 11, e => exact hp
      | 12, e => exact hp
      | 13, e => exact hp
      | 14, e => exact hp
      | 15, e => exact hp
      | 16, e => exact hp
      | 17, e => exact hp
      | 18, e => exact hp
      | 19, e => exact hp
      | 20, e => exact hp
      | 21, e => exact hp
      | 22, e => exact hp
      | 23, e => exact hp
      | 24, e => exact hp
      | 25, e => exact hp
      | 26, e => exact hp
      | 27, e => exact hp
      | 28, e => exact hp
      | 29, e => exact hp
      | 30, e => exact hp
      | 31, e => exact hp
      | 32, e => exact hp
      | 33, e => exact hp
      | 34, e => exact hp
      | 35, e => exact hp
      | 36, e => exact hp
      | 37, e => exact hp
      | 38, e => exact hp
      | 39, e => exact hp
      | 40, e => exact hp
      | i + 41, e => cases e
    exact mks_ok X G c F p hp
  · have hp : p ∈ kdsL := by
      match i, e with
      | 0, e => exact hp
      | 1, e => exact hp
      | 2, e => exact hp
      | 3, e => exact hp
      | 4, e => exact hp
      | 5, e => exact hp
      | 6, e => exact hp
      | 7, e => exact hp
      | 8, e => exact hp
      | 9, e => exact hp
      | 10, e => exact hp
      | 11, e => exact hp
      | 12, e => exact hp
      | 13, e => exact hp
      | 14, e => exact hp
      | 15, e => exact hp
      | 16, e => exact hp
      | 17, e => exact hp
      | 18, e => exact hp
      | 19, e => exact hp
      | 20, e => exact hp
      | 21, e => exact hp
      | 22, e => exact hp
      | 23, e => exact hp
      | 24, e => exact hp
      | 25, e => exact hp
      | 26, e => exact hp
      | 27, e => exact hp
      | 28, e => exact hp
      | 29, e => exact hp
      | 30, e => exact hp
      | 31, e => exact hp
      | 32, e => exact hp
      | 33, e => exact hp
      | 34, e => exact hp
      | 35, e => exact hp
      | 36, e => exact hp
      | 37, e => exact hp
      | 38, e => exact hp
      | 39, e => exact hp
      | 40, e => exact hp
      | i + 41, e => cases e
    revert p
    intro p hp0 hp
    clear hp0
    revert p
    refine List.forall_mem_cons.mpr ⟨⟨_, glo_at X G c.t.d (List.mem_append_left _ (List.mem_of_getElem? (i := 54) rfl)), kd_ok (dvs := kv0) (tab_at c.t 0 rfl) c.more rfl fun i p q h1 h2 H av => ?_⟩, ?_⟩
    · exact kv_rep (kvs := kdD 0) (dvs := kv0) (by decide +kernel) i p q h1 h2 H av
    exact fun p hp => nomatch hp
  · have hp : p ∈ lnsL := by
      match i, e with
      | 0, e => exact hp
      | 1, e => exact hp
      | 2, e => exact hp
      | 3, e => exact hp
      | 4, e => exact hp
      | 5, e => exact hp
      | 6, e => exact hp
      | 7, e => exact hp
      | 8, e => exact hp
      | 9, e => exact hp
      | 10, e => exact hp
      | 11, e => exact hp
      | 12, e => exact hp
      | 13, e => exact hp
      | 14, e => exact hp
      | 15, e => exact hp
      | 16, e => exact hp
      | 17, e => exact hp
      | 18, e => exact hp
      | 19, e => exact hp
      | 20, e => exact hp
      | 21, e => exact hp
      | 22, e => exact hp
      | 23, e => exact hp
      | 24, e => exact hp
      | 25, e => exact hp
      | 26, e => exact hp
      | 27, e => exact hp
      | 28, e => exact hp
      | 29, e => exact hp
      | 30, e => exact hp
      | 31, e => exact hp
      | 32, e => exact hp
      | 33, e => exact hp
      | 34, e => exact hp
      | 35, e => exact hp
      | 36, e => exact hp
      | 37, e => exact hp
      | 38, e => exact hp
      | 39, e => exact hp
      | 40, e => exact hp
      | i + 41, e => cases e
    revert p
    intro p hp0 hp
    clear hp0
    revert p
    refine List.forall_mem_cons.mpr ⟨⟨d36, rfl, He.meth_ok (fact_in c.t.d (f := .meth "Talk" "__len__") (List.mem_append_left _ (List.mem_of_getElem? (i := 53) rfl))), pat_pos (e36 (F 36 d36 rfl))⟩, ?_⟩
    exact fun p hp => nomatch hp
end
def loose : List Str := (["_wall", "is_whole", "is_name", "are_names", "parts_of", "is_term", "holds", "regions_of", "alone", "term_for", "is_addend", "is_sum", "row_of", "sum_for", "_law_pool", "_law_take"] : List Str) ++ (["_law_folded", "_law_names", "_law_tongue", "_law_lies", "_law_in", "_law_whole", "_law_great", "_law_number", "_law_row", "_law_dressed", "_law_regions", "_law_sum_row", "_law_parts", "_law_is_addend", "_law_is_sum", "_law_right"] : List Str) ++ (["MOST", "LETTERS", "LONGEST", "WORDS", "DEEPEST", "MOST_PARTS", "ADDENDS", "MOST_SETS", "MOST_NUMBERS", "Talk", "FoldError", "LackError", "NoName", "NoRegion", "NoTalk"] : List Str)
abbrev hk : PySem.W.Hook := hookE 6 fa fns tabs more
def ob (s : PySem.W.SharedT) : AlE := obsE 6 fa fns tabs more (HandSHeadRun.getT s)
theorem ob_is (s : PySem.W.SharedT) : ob s = hk.obs s.abs := obsE_eq (HandSHeadRun.getT_eq s)
theorem ran (w : World) : HandSHeadRun.RunEq (PySem.W.OpenLaw.row PySem.Challenge.rw_countfold_k12_sums_for_rows) (PySem.W.view (PySem.W.OpenLaw.row PySem.Challenge.rw_countfold_k12_sums_for_rows).prog [53]) hk ob 6000 loose w := run_fix (P := fun w => HandSHeadRun.RunEq (PySem.W.OpenLaw.row PySem.Challenge.rw_countfold_k12_sums_for_rows) (PySem.W.view (PySem.W.OpenLaw.row PySem.Challenge.rw_countfold_k12_sums_for_rows).prog [53]) hk ob 6000 loose w) (fun w b os => by cases b <;> kernel_rfl) w
theorem bind_ (K : PySem.W.Frag) (fd : FuncData) (F : FunD K d32.name d32.qual d32.params d32.body d32.scope (d32.dvs K) (d32.kws K) (He.fAd K d32.at_) fd) (s : Shared) (v : Value) : BindsTo s fd ⟨[v], []⟩ [("_law_script", v)] :=
  FunD.bindsA (ps := ["_law_script"]) F (fun _ _ _ _ _ _ us hl => match us, hl with | [_], _ => rfl) s [v] rfl
end Lk12
section
open PySem PySem.W PySem.Calls PyProof.Rows
theorem Lk12.pre (meaning : ∀ ns : List Int, ns.length ≤ 63 → ∃ wf os, Mi.run Lk12.glD wf Lk12.tms Lk12.kdD 40 32 [.val (.scr (ns.map Mi.D.int))] = some (.val (.bl true), os)) : PySem.Challenge.rw_countfold_k12_sums_for_rows.Holds := by
  w_on; o_law
  refine HandSHeadRun.head_any (H := Lk12.hk) (ob := Lk12.ob) (M := 6000) (loose := Lk12.loose) (kwd := []) (d := HandSHeadRun.topDef (PySem.W.OpenLaw.row PySem.Challenge.rw_countfold_k12_sums_for_rows).prog 53) (r := (PySem.W.OpenLaw.row PySem.Challenge.rw_countfold_k12_sums_for_rows)) (q := view (PySem.W.OpenLaw.row PySem.Challenge.rw_countfold_k12_sums_for_rows).prog [53]) Lk12.ob_is
    (by kernel_rfl) (fun s => by kernel_rfl) Lk12.ran (by kernel_rfl) (by kernel_rfl)
    (by kernel_rfl) (by rfl) (by first | assumption | decide +kernel)
    (by decide +kernel) ⟨rfl, rfl, rfl, rfl, rfl, by decide +kernel⟩ ?hw ?hc
  case hw => w_witness2
  case hc => exact Mi.law_end (m := 63) (k := 40) rfl (by decide) (by kernel_rfl) ⟨rfl, by decide, by decide⟩ (d := Lk12.d32) (i := 32) rfl rfl (by kernel_rfl) (List.mem_append_left _ (List.mem_of_getElem? (i := 32) (by kernel_rfl))) Lk12.says_ Lk12.bind_ meaning

end
namespace Lk12
open Mi PySem L2
local macro_rules | `(tactic| walk_at "s") => `(tactic| (
  first
  | (with_reducible refine gs_cons ?_)
  | (with_reducible refine gs_asg ?_)
  | (with_reducible refine gs_ret ?_)
  | (with_reducible refine gs_exp ?_)
  | (with_reducible refine gs_setx ?_)
  | (with_reducible refine gs_nil ?_)
  | (with_reducible refine gv_con ?_)
  | ((with_reducible apply gv_var); exact rfl)
  | (with_reducible refine gv_bin ?_)
  | (with_reducible refine gv_cmp ?_)
  | (with_reducible refine gt_cmp ?_)
  | (with_reducible refine gv_idx ?_)
  | (with_reducible refine gv_bi ?_)
  | (with_reducible refine gt_bi ?_)
  | (with_reducible refine gv_cal ?_)
  | (with_reducible refine gv_tup ?_)
  | (with_reducible refine gv_lst ?_)
  | (with_reducible refine gv_slc ?_)
  | (with_reducible refine gv_not ?_)
  | (with_reducible refine gt_not ?_)
  | (with_reducible refine gf_nil ?_)
  | (with_reducible refine gf_cons ?_)
  | (with_reducible refine ga_nil ?_)
  | (with_reducible refine ga_cons ?_)
  | (with_reducible refine go_non ?_)
  | ((with_reducible apply gl_look); exact rfl)
  | ((with_reducible apply gl_frz); exact rfl)
  | (with_reducible refine gl_add ?_)
  | (with_reducible refine gl_sub ?_)
  | (with_reducible refine gl_lt ?_)
  | (with_reducible refine gl_le ?_)
  | (with_reducible refine gl_gt ?_)
  | (with_reducible refine gl_ge ?_)
  | (with_reducible refine gl_eq ?_)
  | (with_reducible refine gl_ne ?_)
  | (with_reducible refine gs_ife ?_)
  | (with_reducible refine gv_ite ?_)
  | ((with_reducible apply gl_rest); exact rfl)
  | ((with_reducible apply gl_put); exact rfl)
  | ((with_reducible apply gl_acc); exact rfl)
  | ((with_reducible apply gl_map); exact rfl)
  | ((with_reducible apply gl_tru); exact rfl)
  try dsimp only [List.set_cons_succ, List.set_cons_zero]))
local macro_rules | `(tactic| walk_at "w") => `(tactic| (
  first
  | (with_reducible refine gs_cons ?_)
  | (with_reducible refine gs_asg ?_)
  | (with_reducible refine gs_ret ?_)
  | (with_reducible refine gs_exp ?_)
  | (with_reducible refine gs_setx ?_)
  | (with_reducible refine gs_nil ?_)
  | (with_reducible refine gv_con ?_)
  | ((with_reducible apply gv_var); exact rfl)
  | ((with_reducible apply gt_var); exact rfl)
  | (with_reducible refine gv_bin ?_)
  | (with_reducible refine gv_cmp ?_)
  | (with_reducible refine gt_cmp ?_)
  | (with_reducible refine gv_idx ?_)
  | (with_reducible refine gv_bi ?_)
  | (with_reducible refine gt_bi ?_)
  | (with_reducible refine gv_isi1 ?_)
  | (with_reducible refine gt_isi1 ?_)
  | (with_reducible refine gv_cal ?_)
  | (with_reducible refine gv_fld ?_)
  | ((with_reducible apply gl_fld); exact rfl)
  | (with_reducible refine gv_mcl ?_)
  | (with_reducible refine gt_mcl ?_)
  | (with_reducible refine ins_is ?_)
  | (with_reducible refine gv_mk ?_)
  | (with_reducible refine gt_cal ?_)
  | (with_reducible refine gv_tup ?_)
  | (with_reducible refine gv_lst ?_)
  | (with_reducible refine gv_slc ?_)
  | (with_reducible refine gv_slx ?_)
  | (with_reducible refine gv_not ?_)
  | (with_reducible refine gt_not ?_)
  | (with_reducible refine gv_neg ?_)
  | (with_reducible refine gv_and ?_)
  | (with_reducible refine gv_or ?_)
  | (with_reducible refine gt_and ?_)
  | (with_reducible refine gt_or ?_)
  | (with_reducible refine gv_emp ?_)
  | (with_reducible refine gv_cpr ?_)
  | (with_reducible refine gs_for ?_)
  | (with_reducible refine gi_seq ?_)
  | (with_reducible refine gi_rng1 ?_)
  | (with_reducible refine gi_zip ?_)
  | (with_reducible refine gi_enu ?_)
  | (with_reducible refine gi_rev ?_)
  | (with_reducible refine gs_augx ?_)
  | (with_reducible refine gs_par ?_)
  | ((with_reducible apply gs_aug); exact rfl)
  | (with_reducible refine gl_aadd ?_)
  | (with_reducible refine gl_asub ?_)
  | (with_reducible refine gc_non ?_)
  | (with_reducible refine gc_som ?_)
  | (with_reducible refine turnK_gv ?_)
  | (with_reducible refine turnL_gv ?_)
  | (with_reducible refine gf_nil ?_)
  | (with_reducible refine gf_cons ?_)
  | (with_reducible refine ga_nil ?_)
  | (with_reducible refine ga_cons ?_)
  | (with_reducible refine go_non ?_)
  | (with_reducible refine go_som ?_)
  | (with_reducible refine ex_int ?_)
  | (with_reducible refine ex_bl ?_)
  | (with_reducible refine it_ ?_)
  | (with_reducible refine if_ ?_)
  | (with_reducible refine nit_ ?_)
  | (with_reducible refine nif_ ?_)
  | ((with_reducible apply gl_look); exact rfl)
  | ((with_reducible apply gl_frz); exact rfl)
  | (with_reducible refine gl_add ?_)
  | (with_reducible refine gl_sub ?_)
  | (with_reducible refine gl_lt ?_)
  | (with_reducible refine gl_le ?_)
  | (with_reducible refine gl_gt ?_)
  | (with_reducible refine gl_ge ?_)
  | (with_reducible refine gl_eq ?_)
  | (with_reducible refine gl_ne ?_)
  | (with_reducible refine gl_eqs ?_)
  | (with_reducible refine gl_nes ?_)
  | (with_reducible refine gl_eqb ?_)
  | (with_reducible refine gl_neb ?_)
  | (with_reducible refine gl_mul (mulOk_s (small60 (by omega)) (small60 (by omega))) ?_)
  | ((with_reducible apply gl_pow); exact ⟨by decide, .inl ⟨by decide, by decide⟩⟩)
  | (with_reducible refine gl_mod (by omega) ?_)
  | (with_reducible refine gl_div (divOk_s (small60 (by omega)) (by omega)) ?_)
  | (with_reducible refine gl_len ?_)
  | (with_reducible refine gl_lenT ?_)
  | (with_reducible refine gl_abs ?_)
  | (with_reducible refine gs_whl ?_)
  | (with_reducible refine gl_sum ?_)
  | (with_reducible refine gl_sum2 ?_)
  | (with_reducible refine gl_all ?_)
  | (with_reducible refine gl_any ?_)
  | (with_reducible refine gs_ife ?_)
  | (with_reducible refine gv_ite ?_)
  | ((with_reducible apply gl_rest); exact rfl)
  | ((with_reducible apply gl_put); exact rfl)
  | ((with_reducible apply gl_acc); exact rfl)
  | (with_reducible refine gl_map1 rfl ?_)
  | (with_reducible refine gl_map2 rfl rfl ?_)
  | ((with_reducible apply gl_map); exact rfl)
  | ((with_reducible apply gl_tru); exact rfl)
  | ((with_reducible apply gl_walk); exact rfl)
  | ((with_reducible apply gl_items); exact rfl)
  | ((with_reducible apply gl_ty); exact rfl)
  | (with_reducible refine gl_slc1T ?_)
  | (with_reducible refine gl_slc1L ?_)
  | (with_reducible refine gl_slcTa ?_)
  | (with_reducible refine gl_slcTb ?_)
  | (with_reducible refine gl_slcLa ?_)
  | (with_reducible refine gl_slcLb ?_)
  | ((with_reducible apply gl_idxt); exact rfl)
  | ((with_reducible apply gl_idxl); exact rfl)
  | ((with_reducible apply gl_bi); exact rfl)
  | ((with_reducible apply gl_cop); exact rfl)
  | dsimp only [List.set_cons_succ, List.set_cons_zero, backs, Out.en, Rt.r, lend, back, restG, wipeG, Option.toList, List.nil_append, List.append_nil, List.cons_append, List.getElem?_cons_zero, List.getElem?_cons_succ, OD.d, Mi.isNon, List.map]
  try dsimp only [List.set_cons_succ, List.set_cons_zero, backs, Out.en, Rt.r, lend, back, restG, wipeG, Option.toList, List.nil_append, List.append_nil, List.cons_append, List.getElem?_cons_zero, List.getElem?_cons_succ, OD.d, Mi.isNon, List.map]))
set_option hygiene false in
local macro_rules | `(tactic| walk_at "take") => `(tactic| (
  refine take_c rfl rfl (by assumption) (by assumption) (by omega) (small60 (by omega)) (by omega) ?_
  intro r o ra rb hp
  dsimp only [List.set_cons_succ, List.set_cons_zero, backs, Out.en, Rt.r, lend, back, restG, wipeG, Option.toList, List.nil_append, List.append_nil, List.cons_append, List.getElem?_cons_zero, List.getElem?_cons_succ, OD.d, Mi.isNon, List.map]))

/-! ### names, a tongue -/
def NmL (l : List Nat) : Prop := 1 ≤ l.length ∧ l.length ≤ 8 ∧ ∀ c ∈ l, 97 ≤ c ∧ c ≤ 122
def NameOk (s : Str) : Prop := ∃ l, s = sT l ∧ NmL l
theorem chars_of {P : Nat → Prop} : ∀ {ds : List D}, (∀ d ∈ ds, ∃ c : Nat, d = .str (sT [c]) ∧ P c) → ∃ cs : List Nat, ds = cs.map (fun c => .str (sT [c])) ∧ ∀ c ∈ cs, P c
  | [], _ => ⟨[], rfl, by simp⟩
  | d :: ds, h => by
    obtain ⟨c, rfl, hc⟩ := h d List.mem_cons_self
    obtain ⟨cs, rfl, hcs⟩ := chars_of (ds := ds) fun d hd => h d (List.mem_cons_of_mem _ hd)
    exact ⟨c :: cs, rfl, fun x hx => by
      rcases List.mem_cons.mp hx with rfl | hx
      · exact hc
      · exact hcs x hx⟩
theorem abc_len : abc.length = 26 := by decide
theorem abc_ok : ∀ c ∈ abc, 97 ≤ c ∧ c ≤ 122 := by decide
theorem abc_nd : abc.Nodup := by decide
theorem abc_str : ("abcdefghijklmnopqrstuvwxyz" : Str) = sT abc := by decide +kernel
theorem ab_str : ("ab" : Str) = sT [97, 98] := by rfl
theorem no_str : ("" : Str) = sT [] := by rfl
def NamesS (f : Sem1) : Prop := ∀ (n : Int) (m : Nat) (o : OD), Pl n o → m ≤ 20 → n ≤ 900000000000 → Gv (f [.own o, .val (.int m)]) fun q => ∃ (fs : List Str) (o' : OD), q = (.fr (.lst (fs.map D.str)), [.own o', .non]) ∧ fs.length = m ∧ fs.Nodup ∧ (∀ s ∈ fs, NameOk s) ∧ Pl (n + 500) o'
/-- of a word with another letter at a place, one isn't there yet -/
theorem new_one {l : List Nat} {a : Nat} {fs : List Str} (hf : fs.length ≤ 20) : ((sT l :: abc.map fun c => sT (l.take a ++ c :: l.drop (a + 1))).filter fun x => !fs.contains x) ≠ [] := by
  intro h
  rw [List.filter_eq_nil_iff] at h
  have hn : (abc.map fun c => sT (l.take a ++ c :: l.drop (a + 1))).Nodup := by
    rw [List.nodup_iff_pairwise_ne, List.pairwise_map]
    refine abc_nd.imp fun {x y} hxy e => hxy ?_
    have := sT_inj e
    rw [List.append_cancel_left_eq] at this
    exact (List.cons.inj this).1
  have := sub_len hn (m := fs) fun x hx => by simpa using h x (List.mem_cons_of_mem _ hx)
  rw [List.length_map, abc_len] at this
  omega
theorem namesS {C : Mi.Ctx} (hT : TakeS (C.ft 15)) : NamesS (runD C t17) := by
  intro n m o h hm hn
  refine gd_run rfl ?_
  show Gv (exs C b17 [.own o, .val (.int m), .un, .un, .un, .un, .un, .un, .un, .un, .un]) _
  unfold b17
  rw [abc_str, ab_str, no_str]
  repeat walk_at "w"
  walk_at "take"
  repeat walk_at "w"
  refine gv_mono (P' := fun d => ∃ ls : List Nat, d = .str (sT ls) ∧ 0 < ls.length ∧ ls.length ≤ 30 ∧ ∀ c ∈ ls, 97 ≤ c ∧ c ≤ 122) (gl_pick ra (by exact rb) ?_) ?_
  · refine List.forall_mem_cons.mpr ⟨⟨abc, rfl, by decide, by decide, abc_ok⟩, ?_⟩
    refine List.forall_mem_cons.mpr ⟨⟨[97, 98], rfl, by decide, by decide, by decide⟩, ?_⟩
    exact fun _ h => nomatch h
  rintro _ ⟨ls, rfl, hl0, hl1, hls⟩
  repeat walk_at "w"
  refine rng_i (by omega) (by omega) ?_
  refine forL_gv (fun i Γ => ∃ (o' : OD) (fs : List Str) (x4 x5 x6 x7 : En), Γ = [.own o', .val (.int m), .val (.str (sT ls)), .own (.lst (fs.map D.str)), x4, x5, x6, x7, .un, .un, .un] ∧ fs.length = i ∧ fs.Nodup ∧ (∀ s ∈ fs, NameOk s) ∧ Pl (n + 1 + 20 * i) o')
    ⟨o, [], _, _, _, _, rfl, rfl, .nil, by simp, hp.mono (by omega)⟩ ?_ ?_
  · rintro i d Γ hd ⟨o1, fs, x4, x5, x6, x7, rfl, hfl, hfn, hfk, hp1⟩
    obtain ⟨rfl, hi⟩ := range_at hd
    refine turnL_gv ?_
    refine gl_put rfl ?_
    dsimp only [List.set_cons_succ, List.set_cons_zero]
    iterate 2 walk_at "w"
    refine gv_mth ?_
    repeat walk_at "w"
    refine take_c rfl rfl hT hp1 (by omega) (small60 (by omega)) (by omega) ?_
    intro r o2 ra rb hp2
    obtain ⟨z, rfl⟩ := Int.eq_ofNat_of_zero_le ra
    repeat walk_at "w"
    refine rng_i (by omega) (by omega) ?_
    rw [show (1 + (z : Int)) = ((1 + z : Nat) : Int) by omega]
    refine len_rng (by omega) ?_
    refine cpr_draws (Γ := fun o => [.own o, .val (.int m), .val (.str (sT ls)), .own (.lst (fs.map D.str)), .val (.int i), x5, x6, x7, .un, .un, .un]) (fun d => ∃ c : Nat, d = .str (sT [c]) ∧ 97 ≤ c ∧ c ≤ 122) (fun k o => Pl (n + 1 + 20 * i + 1 + k) o) (by simpa using hp2) ?_ ?_
    · intro k o3 hk hp3
      repeat walk_at "w"
      refine gl_lenS (by rw [sT_len]; omega) ?_
      rw [sT_len]
      repeat walk_at "w"
      refine take_c rfl rfl hT hp3 (by omega) (small60 (by omega)) (by omega) ?_
      intro r o4 ra rb hp4
      obtain ⟨j, rfl⟩ := Int.eq_ofNat_of_zero_le ra
      have hj : j < ls.length := by omega
      repeat walk_at "w"
      refine gl_idxS (by omega) (List.getElem?_eq_getElem hj) ?_
      repeat walk_at "w"
      exact ⟨_, o4, rfl, ⟨_, rfl, hls _ (List.getElem_mem hj)⟩, hp4.mono (by omega)⟩
    intro ds o3 hdl hds hp3
    obtain ⟨l, rfl, hl⟩ := chars_of hds
    rw [List.length_map] at hdl
    repeat walk_at "w"
    refine gl_joinC (by omega) ?_
    repeat walk_at "w"
    refine gl_lenS (by rw [sT_len]; omega) ?_
    rw [sT_len]
    repeat walk_at "w"
    refine take_c rfl rfl hT hp3 (by omega) (small60 (by omega)) (by omega) ?_
    intro r o4 ra rb hp4
    obtain ⟨a, rfl⟩ := Int.eq_ofNat_of_zero_le ra
    have ha : a < l.length := by omega
    have hta : (l.take a).length = a := by rw [List.length_take]; omega
    have htb : (l.drop (a + 1)).length = l.length - (a + 1) := List.length_drop
    repeat walk_at "w"
    rw [show oneC (sT abc) = abc.map (fun c => D.str (sT [c])) from rfl]
    refine len_lst (by decide) ?_
    refine cpr_map (fun c => .str (sT [c])) (fun c => .str (sT (l.take a ++ c :: l.drop (a + 1)))) (fun c hc => ?_) ?_
    · repeat walk_at "w"
      refine gl_slcSa (by omega) ?_
      repeat walk_at "w"
      refine gl_catS (by rw [sT_len, sT_len, hta]; show a + 1 ≤ _; omega) ?_
      rw [sT_app]
      repeat walk_at "w"
      refine gl_slcSb (by omega) ?_
      repeat walk_at "w"
      refine gl_catS (by rw [sT_len, sT_len, List.length_append, hta, htb]; show a + 1 + _ ≤ _; omega) ?_
      rw [sT_app, List.append_assoc]
      repeat walk_at "w"
    repeat walk_at "w"
    refine gl_catL (by rw [List.length_map, abc_len]; show 1 + 26 ≤ 16777216; omega) ?_
    repeat walk_at "w"
    have hc : (D.str (sT l) :: abc.map fun c => D.str (sT (l.take a ++ c :: l.drop (a + 1)))) = (sT l :: abc.map fun c => sT (l.take a ++ c :: l.drop (a + 1))).map D.str := by rw [List.map_cons, List.map_map]; rfl
    rw [hc]
    generalize hcand : (sT l :: abc.map fun c => sT (l.take a ++ c :: l.drop (a + 1))) = cand
    have hcok : ∀ s ∈ cand, NameOk s := fun s hs => by
      rw [← hcand] at hs
      rcases List.mem_cons.mp hs with rfl | hs
      · exact ⟨l, rfl, by omega, by omega, hl⟩
      · obtain ⟨c, hc, rfl⟩ := List.mem_map.mp hs
        refine ⟨_, rfl, ?_, ?_, fun x hx => ?_⟩
        · rw [List.length_append, List.length_cons, hta, htb]; omega
        · rw [List.length_append, List.length_cons, hta, htb]; omega
        · rcases List.mem_append.mp hx with hx | hx
          · exact hl x (List.mem_of_mem_take hx)
          · rcases List.mem_cons.mp hx with rfl | hx
            · exact abc_ok _ hc
            · exact hl x (List.mem_of_mem_drop hx)
    have hcl : cand.length = 27 := by rw [← hcand, List.length_cons, List.length_map, abc_len]
    have hne : (cand.filter fun x => !fs.contains x) ≠ [] := by rw [← hcand]; exact new_one (by omega)
    repeat walk_at "w"
    refine len_lst (by omega) ?_
    refine cpr_filter D.str D.str (fun x => !fs.contains x) (fun x hx => ?_) ?_
    · repeat walk_at "w"
      refine gl_notinS ?_
      cases hx : fs.contains x with
      | true => repeat walk_at "w"
                rfl
      | false => repeat walk_at "w"
                 rfl
    obtain ⟨y, ys, hy⟩ := List.exists_cons_of_ne_nil hne
    have hym : y ∈ cand ∧ y ∉ fs := by
      have : y ∈ cand.filter fun x => !fs.contains x := by rw [hy]; exact List.mem_cons_self
      simpa using List.mem_filter.mp this
    rw [hy]
    repeat walk_at "w"
    refine gl_app rfl ?_
    repeat walk_at "w"
    refine ⟨_, _, rfl, rfl, by rw [List.length_map]; omega, ?_⟩
    repeat walk_at "w"
    refine ⟨o4, fs ++ [y], _, _, _, _, by rw [List.map_append]; rfl, by simp [hfl], ?_, fun s hs => ?_, hp4.mono (by omega)⟩
    · rw [List.nodup_append]
      refine ⟨hfn, by simp, fun x hx z hz e => ?_⟩
      rw [List.mem_singleton] at hz
      subst hz
      subst e
      exact hym.2 hx
    · rcases List.mem_append.mp hs with hs | hs
      · exact hfk s hs
      · rw [List.mem_singleton.mp hs]
        exact hcok y hym.1
  · rintro Γ ⟨o1, fs, x4, x5, x6, x7, rfl, hfl, hfn, hfk, hp1⟩
    rw [range_len] at hfl hp1
    repeat walk_at "w"
    exact gv_is rfl ⟨fs, o1, rfl, hfl, hfn, hfk, hp1.mono (by omega)⟩

def strUp (a b : Str) : Prop := a.cps.toList < b.cps.toList
structure TongueOk (ss ns : List Str) : Prop where
  okS : ∀ s ∈ ss, NameOk s
  okN : ∀ s ∈ ns, NameOk s
  upS : ss.Pairwise strUp
  upN : ns.Pairwise strUp
  apart : ∀ s ∈ ss, s ∉ ns
theorem sortT_perm (xs : List Str) : (sortT xs).Perm xs := List.mergeSort_perm xs _
theorem sortT_up {xs : List Str} (h : xs.Nodup) : (sortT xs).Pairwise strUp := by
  have h1 : (sortT xs).Pairwise fun a b => a.cps.toList ≤ b.cps.toList := by
    have := List.pairwise_mergeSort (le := fun a b : Str => decide (a.cps.toList ≤ b.cps.toList)) (fun a b c h1 h2 => by simp at *; exact List.le_trans h1 h2) (fun a b => by simp; exact List.le_total _ _) xs
    exact this.imp fun h => by simpa using h
  have h2 : (sortT xs).Pairwise (· ≠ ·) := by
    have := ((sortT_perm xs).nodup_iff).mpr h
    rwa [List.nodup_iff_pairwise_ne] at this
  refine (h1.and h2).imp fun {a b} ⟨h1, h2⟩ => ?_
  by_cases h : a.cps.toList < b.cps.toList
  · exact h
  · refine absurd ?_ h2
    have e := List.le_antisymm h1 (List.not_lt.mp h)
    obtain ⟨⟨a⟩⟩ := a
    obtain ⟨⟨b⟩⟩ := b
    have : a = b := e
    rw [this]

/- after tongok -/
def TongueS (f : Sem1) : Prop := ∀ (n : Int) (a b : Nat) (o : OD), Pl n o → a ≤ 5 → b ≤ 5 → n ≤ 800000000000 → Gv (f [.own o, .val (.int a), .val (.int b)]) fun q => ∃ (ss ns : List Str) (o' : OD), q = (.val (.tup [.tup (ss.map D.str), .tup (ns.map D.str)]), [.own o', .non, .non]) ∧ ss.length ≤ a ∧ ns.length ≤ b ∧ TongueOk ss ns ∧ Pl (n + 510) o'
theorem tongueS {C : Mi.Ctx} (hT : TakeS (C.ft 15)) (hN : NamesS (C.ft 17)) : TongueS (runD C t18) := by
  intro n a b o h ha hb hn
  refine gd_run rfl ?_
  show Gv (exs C b18 [.own o, .val (.int a), .val (.int b), .un, .un]) _
  unfold b18
  repeat walk_at "w"
  refine take_c rfl rfl hT h (by omega) (small60 (by omega)) (by omega) ?_
  intro r o1 ra rb hp1
  obtain ⟨k, rfl⟩ := Int.eq_ofNat_of_zero_le ra
  repeat walk_at "w"
  refine take_c rfl rfl hT hp1 (by omega) (small60 (by omega)) (by omega) ?_
  intro r o2 ra2 rb2 hp2
  obtain ⟨j, rfl⟩ := Int.eq_ofNat_of_zero_le ra2
  repeat walk_at "w"
  rw [show (k : Int) + (j : Int) = ((k + j : Nat) : Int) by omega]
  refine callT_gv rfl rfl (gv_mono (hN _ (k + j) o2 hp2 (by omega) (by omega)) ?_)
  rintro _ ⟨fs, o3, rfl, hfl, hfn, hfk, hp3⟩
  repeat walk_at "w"
  rw [← List.map_take]
  refine gl_sortT (by rw [List.length_take]; omega) ?_
  repeat walk_at "w"
  refine gv_is (a := .fr (.lst ((fs.map D.str).drop k))) (by show nl (cutD (fs.map D.str) (some (k : Int)) none) = _; rw [cut_hi]; rfl) ?_
  rw [← List.map_drop]
  repeat walk_at "w"
  refine gl_sortT (by rw [List.length_drop]; omega) ?_
  repeat walk_at "w"
  have m1 : ∀ s, s ∈ sortT (fs.take k) ↔ s ∈ fs.take k := fun s => (sortT_perm _).mem_iff
  have m2 : ∀ s, s ∈ sortT (fs.drop k) ↔ s ∈ fs.drop k := fun s => (sortT_perm _).mem_iff
  have hsplit := hfn
  rw [← List.take_append_drop k fs, List.nodup_append] at hsplit
  obtain ⟨n1, n2, n3⟩ := hsplit
  refine gv_is rfl ⟨sortT (fs.take k), sortT (fs.drop k), o3, rfl, ?_, ?_, ⟨fun s hs => hfk s (List.mem_of_mem_take ((m1 s).mp hs)), fun s hs => hfk s (List.mem_of_mem_drop ((m2 s).mp hs)), sortT_up n1, sortT_up n2, fun s hs hs2 => n3 s ((m1 s).mp hs) s ((m2 s).mp hs2) rfl⟩, hp3.mono (by omega)⟩
  · rw [(sortT_perm _).length_eq, List.length_take]; omega
  · rw [(sortT_perm _).length_eq, List.length_drop]; omega

/-! ### is_whole -/
def okW : D → Bool
  | .scr _ => false
  | .ins _ _ => false
  | _ => true
def optD : Option Int → D
  | none => .non
  | some i => .int i
def wholeB : D → Option Int → Bool
  | .int i, some l => !decide (i < l)
  | .int _, none => true
  | _, _ => false
def IsW (f : Sem1) : Prop := ∀ (d : D) (l : Option Int), okW d = true → Gv (f [.val d, .val (optD l), .val .non]) fun q => q = (.val (.bl (wholeB d l)), [.non, .non, .non])
theorem isW {C : Mi.Ctx} : IsW (runD C t1) := by
  intro d l hd
  refine gd_run rfl ?_
  show Gv (exs C b1 [.val d, .val (optD l), .val .non]) _
  unfold b1
  cases d with
  | scr _ => cases hd
  | ins _ _ => cases hd
  | int i =>
    cases l with
    | none =>
      dsimp only [optD]
      repeat walk_at "w"
      exact gv_is rfl rfl
    | some l =>
      dsimp only [optD]
      repeat walk_at "w"
      refine if_d (fun h => ?_) (fun h => ?_)
      · repeat walk_at "w"
        refine gv_is rfl ?_
        simp [wholeB, h]
        rfl
      · repeat walk_at "w"
        refine gv_is rfl ?_
        simp [wholeB, h]
        rfl
  | _ =>
    repeat walk_at "w"
    exact gv_is rfl rfl

/-- a bound: none, or a number -/
def BdD (d : D) : Prop := d = .non ∨ ∃ i : Int, d = .int i
def loB (l : D) (i : Int) : Bool := match l with
  | .int j => decide (j ≤ i)
  | _ => true
def hiB (m : D) (i : Int) : Bool := match m with
  | .int j => decide (i ≤ j)
  | _ => true
def whole3B (d l m : D) : Bool := match d with
  | .int i => loB l i && hiB m i
  | _ => false
/-- what may be asked of: no instance, not the script -/
def Thing (d : D) : Prop := match d with
  | .ins _ _ => False
  | .scr _ => False
  | _ => True
def IwS (f : Sem1) : Prop := ∀ d l m : D, Thing d → BdD l → BdD m → Gv (f [.val d, .val l, .val m]) fun q => q = (.val (.bl (whole3B d l m)), [.non, .non, .non])
theorem iwS {C : Mi.Ctx} : IwS (runD C t1) := by
  intro d l m hd hl hm
  refine gd_run rfl ?_
  show Gv (exs C b1 [.val d, .val l, .val m]) _
  unfold b1
  cases d with
  | int i =>
    rcases hl with rfl | ⟨j, rfl⟩ <;> rcases hm with rfl | ⟨k, rfl⟩
    · repeat walk_at "w"
      exact gv_is rfl rfl
    · repeat walk_at "w"
      exact gv_is rfl rfl
    · repeat walk_at "w"
      refine if_d (fun h0 => ?_) (fun h0 => ?_)
      · repeat walk_at "w"
        exact gv_is rfl (by show (Rt.val (.bl false), _) = (Rt.val (.bl (decide (j ≤ i) && true)), _); rw [decide_eq_false (by omega)]; rfl)
      · repeat walk_at "w"
        exact gv_is rfl (by show (Rt.val (.bl true), _) = (Rt.val (.bl (decide (j ≤ i) && true)), _); rw [decide_eq_true (by omega)]; rfl)
    · repeat walk_at "w"
      refine if_d (fun h0 => ?_) (fun h0 => ?_)
      · repeat walk_at "w"
        exact gv_is rfl (by show (Rt.val (.bl false), _) = (Rt.val (.bl (decide (j ≤ i) && decide (i ≤ k))), _); rw [decide_eq_false (show ¬ j ≤ i by omega)]; rfl)
      · repeat walk_at "w"
        exact gv_is rfl (by show (Rt.val (.bl (decide (i ≤ k))), _) = (Rt.val (.bl (decide (j ≤ i) && decide (i ≤ k))), _); rw [decide_eq_true (show j ≤ i by omega)]; rfl)
  | ins c ds => exact hd.elim
  | scr ds => exact hd.elim
  | _ =>
    repeat walk_at "w"
    exact gv_is rfl rfl

/-! ### more of lists -/
theorem gl_dropT {xs : List D} {k : Nat} {P : R → Prop} (p : P (.val (.tup (xs.drop k)))) : Gv (slcD (some (k : Int)) none (.tup xs)) P := gv_is (by show vl (.tup (cutD xs (some (k : Int)) none)) = _; rw [cut_hi]; rfl) p
theorem gl_dropL {xs : List D} {k : Nat} {P : R → Prop} (p : P (.fr (.lst (xs.drop k)))) : Gv (slcD (some (k : Int)) none (.lst xs)) P := gv_is (by show nl (cutD xs (some (k : Int)) none) = _; rw [cut_hi]; rfl) p
theorem cut_both (xs : List D) (a b : Nat) : cutD xs (some (a : Int)) (some (b : Int)) = (xs.drop a).take (b - a) := by
  unfold cutD
  rw [HT.sIx_nat, HT.sIx_nat]
  rcases Nat.le_total a xs.length with h | h
  · rw [Nat.min_eq_left h]
    rcases Nat.le_total b xs.length with g | g
    · rw [Nat.min_eq_left g]
    · rw [Nat.min_eq_right g, List.take_of_length_le (by rw [List.length_drop]; omega), List.take_of_length_le (by rw [List.length_drop]; omega)]
  · rw [Nat.min_eq_right h, List.drop_of_length_le (Nat.le_refl _), List.drop_of_length_le h]
    simp
theorem gl_cutL {xs : List D} {a b : Nat} {P : R → Prop} (p : P (.fr (.lst ((xs.drop a).take (b - a))))) : Gv (slcD (some (a : Int)) (some (b : Int)) (.lst xs)) P := gv_is (by show nl (cutD xs (some (a : Int)) (some (b : Int))) = _; rw [cut_both]; rfl) p
theorem gl_min1 {ns : List Int} {P : R → Prop} (h : ns ≠ []) (p : P (.val (.int (minI ns)))) : Gv (bi .min1 [.lst (ns.map D.int)]) P := gv_is (by show (intsD _).bind _ = _; rw [ints_map]; show (if ns = [] then none else vl (.int (minI ns))) = _; rw [if_neg h]; rfl) p
theorem minI_le : ∀ {ns : List Int} {x : Int}, x ∈ ns → minI ns ≤ x
  | [y], x, h => by rw [List.mem_singleton.mp h]; exact Int.le_refl _
  | y :: z :: ns, x, h => by
    have ih := @minI_le (z :: ns) x
    show (if minI (z :: ns) < y then minI (z :: ns) else y) ≤ x
    rcases List.mem_cons.mp h with rfl | h
    · split <;> omega
    · have := ih h
      split <;> omega
theorem minI_mem : ∀ {ns : List Int}, ns ≠ [] → minI ns ∈ ns
  | [y], _ => List.mem_cons_self
  | y :: z :: ns, _ => by
    have ih := @minI_mem (z :: ns) (by simp)
    show (if minI (z :: ns) < y then minI (z :: ns) else y) ∈ _
    split
    · exact List.mem_cons_of_mem _ ih
    · exact List.mem_cons_self
section
variable {C : Mi.Ctx} {own : List Nat} {t : Tg} {c : Eo} {e : E} {Q : List D × G → Prop}
theorem cpr_drawsL {Γ : OD → G} {xs : List D} {o : OD} (A : D → Prop) (J : Nat → OD → Prop) (h0 : J 0 o)
    (hs : ∀ k d o, xs[k]? = some d → J k o → Gv (turnK C own t c e d (Γ o)) (fun p => ∃ y o', p = (some y, Γ o') ∧ A y ∧ J (k + 1) o')) (h : ∀ (ds : List D) (o : OD), ds.length = xs.length → (∀ d ∈ ds, A d) → J xs.length o → Q (ds, Γ o)) :
    Gv (cprL (turnK C own t c e) xs [] (Γ o)) Q := by
  refine cprL_gv (fun k acc Γ' => ∃ o, Γ' = Γ o ∧ acc.length = k ∧ (∀ d ∈ acc, A d) ∧ J k o) ⟨o, rfl, rfl, by simp, h0⟩ ?_ ?_
  · rintro k d acc Γ' hd ⟨o, rfl, hl, ha, hj⟩
    refine gv_mono (hs k d o hd hj) ?_
    rintro _ ⟨y, o', rfl, hy, hj'⟩
    refine ⟨o', rfl, by simp [hl], fun d hd => ?_, hj'⟩
    rcases List.mem_append.mp hd with hd | hd
    · exact ha d hd
    · rw [List.mem_singleton.mp hd]; exact hy
  · rintro acc Γ' ⟨o, rfl, hl, ha, hj⟩
    exact h acc o hl ha hj
end
section
variable {C : Mi.Ctx} {t : Tg} {ss : Ss} {Ps : Fl × G → Prop}
theorem for_allD {Γ : G} {xs : List D} (p : D → Bool) (I : G → Prop) (h0 : I Γ)
    (hs : ∀ x ∈ xs, ∀ Γ, I Γ → Gv (turnL C t ss x Γ) fun q => if p x = true then q.1 = .nx ∧ I q.2 else q.1 = .rt (.val (.bl false)) ∧ I q.2)
    (h1 : ∀ Γ, I Γ → xs.all p = true → Ps (.nx, Γ)) (h2 : ∀ Γ, I Γ → xs.all p = false → Ps (.rt (.val (.bl false)), Γ)) : Gv (forL (turnL C t ss) xs Γ) Ps := by
  have := for_all (C := C) (t := t) (ss := ss) (Ps := Ps) (xs := xs) id p I h0 hs h1 h2
  rwa [List.map_id] at this
theorem for_listD {Γ : G} {xs : List D} (I : Nat → G → Prop) (h0 : I 0 Γ) (hs : ∀ i x Γ, xs[i]? = some x → I i Γ → Gv (turnL C t ss x Γ) fun p => match p.1 with
      | .nx => I (i + 1) p.2
      | .ct => I (i + 1) p.2
      | .bk => Ps (.nx, p.2)
      | .rt r => Ps (.rt r, p.2)) (h : ∀ Γ, I xs.length Γ → Ps (.nx, Γ)) : Gv (forL (turnL C t ss) xs Γ) Ps := forL_gv I h0 hs h
end

/-! ### a Talk made -/
def talkD (ss ns : List Str) (top : Int) : D := .ins 0 [.tup (ss.map D.str), .tup (ns.map D.str), .int top]
def NmT (f : Sem1) : Prop := ∀ s : Str, NameOk s → Gv (f [.val (.str s)]) fun q => q = (.val (.bl true), [.non])
theorem in_abc : ∀ c < 128, (!(Builtin.Str.occurrences (sT abc) (sT [c]) 0 (sT abc).length 1).isEmpty) = (decide (97 ≤ c) && decide (c ≤ 122)) := by decide +kernel
theorem nmT {C : Mi.Ctx} (hg : C.gl = glD) : NmT (runD C t2) := by
  rintro _ ⟨cs, rfl, hl1, hl8, hc⟩
  refine gd_run rfl ?_
  show Gv (exs C b2 [.val (.str (sT cs)), .un]) _
  unfold b2
  repeat walk_at "w"
  refine gt_chn ?_
  repeat walk_at "w"
  refine gl_lenS (by rw [sT_len]; omega) ?_
  repeat walk_at "w"
  rw [sT_len]
  refine if_d (fun h1 => ?_) (fun h1 => by omega)
  refine gv_glb ?_
  rw [hg]
  repeat walk_at "w"
  refine if_b (fun h8 => ?_) (fun h8 => ?_)
  · have : decide ((cs.length : Int) ≤ 8) = true := decide_eq_true (by omega)
    rw [this] at h8
    cases h8
  · repeat walk_at "w"
    refine gv_is (a := oneC (sT cs)) (if_pos (by rw [sT_len]; show _ ≤ 16777216; omega)) ?_
    have e1 : oneC (sT cs) = cs.map fun c => D.str (sT [c]) := rfl
    rw [e1]
    refine len_lst (by omega) ?_
    refine cpr_map (fun c => D.str (sT [c])) (fun c => .bl true) (fun c hcm => ?_) ?_
    · repeat walk_at "w"
      refine gv_glb ?_
      rw [hg]
      repeat walk_at "w"
      have := hc c hcm
      rw [show (Str.ofString "abcdefghijklmnopqrstuvwxyz") = sT abc from abc_str, in_abc c (by omega), decide_eq_true this.1, decide_eq_true this.2]
      rfl
    have e2 : (cs.map fun c => D.bl true) = (cs.map fun c => true).map D.bl := by rw [List.map_map]; rfl
    rw [e2]
    repeat walk_at "w"
    refine gv_is rfl ?_
    rw [List.all_map]
    have : (cs.all (id ∘ fun _ => true)) = true := by simp
    rw [this]
    rfl
def ArS (f : Sem1) : Prop := ∀ (ss : List Str) (many : Nat), ss.length ≤ many → many ≤ 5 → (∀ s ∈ ss, NameOk s) → ss.Pairwise strUp → Gv (f [.val (.tup (ss.map D.str)), .val (.int many)]) fun q => q = (.val (.bl true), [.non, .non])
theorem up_all : ∀ {ss : List Str}, ss.Pairwise strUp → ∀ p ∈ ss.zip (ss.drop 1), strUp p.1 p.2
  | [], _, p, hp => by simp at hp
  | [s], _, p, hp => by simp at hp
  | s :: u :: ss, h, p, hp => by
    have hp : p ∈ (s, u) :: (u :: ss).zip ss := by simpa using hp
    obtain ⟨h1, h2⟩ := List.pairwise_cons.mp h
    rcases List.mem_cons.mp hp with rfl | hp
    · exact h1 u List.mem_cons_self
    · exact up_all h2 p (by simpa using hp)
theorem arS {C : Mi.Ctx} (hN : NmT (C.ft 2)) : ArS (runD C t3) := by
  intro ss many h1 h2 h3 h4
  refine gd_run rfl ?_
  show Gv (exs C b3 [.val (.tup (ss.map D.str)), .val (.int many), .un, .un, .un]) _
  unfold b3
  repeat walk_at "w"
  rw [len_map]
  refine if_d (fun h => by omega) (fun _ => ?_)
  repeat walk_at "w"
  refine len_lst (by omega) ?_
  refine cpr_map D.str (fun _ => .bl true) (fun s hs => ?_) ?_
  · repeat walk_at "w"
    refine callT_gv rfl rfl (gv_mono (hN s (h3 s hs)) ?_)
    rintro _ rfl
    repeat walk_at "w"
  have e2 : (ss.map fun _ => D.bl true) = (ss.map fun _ => true).map D.bl := by rw [List.map_map]; rfl
  rw [e2]
  repeat walk_at "w"
  have e3 : ((ss.map fun _ => true).all id) = true := by simp
  rw [e3]
  refine if_b (fun z => by cases z) (fun _ => ?_)
  repeat walk_at "w"
  refine gl_dropT (k := 1) ?_
  repeat walk_at "w"
  rw [← List.map_drop, zipD_map]
  refine len_lst (by rw [List.length_zip, List.length_drop]; omega) ?_
  refine cpr_map _ (fun _ => .bl true) (fun p hp => ?_) ?_
  · have := up_all h4 p hp
    repeat walk_at "w"
    have hd : decide (p.1.cps.toList < p.2.cps.toList) = true := decide_eq_true this
    rw [hd]
  have e4 : ((ss.zip (ss.drop 1)).map fun _ => D.bl true) = ((ss.zip (ss.drop 1)).map fun _ => true).map D.bl := by rw [List.map_map]; rfl
  rw [e4]
  repeat walk_at "w"
  refine gv_is rfl ?_
  have e5 : (((ss.zip (ss.drop 1)).map fun _ => true).all id) = true := by simp
  rw [e5]
  rfl
def InitS (f : Sem1) : Prop := ∀ (ss ns : List Str) (top : Int), TongueOk ss ns → ss.length ≤ 3 → ns.length ≤ 2 → 1 ≤ top → Gv (f [.own (.ins 0 []), .val (.tup (ss.map D.str)), .val (.tup (ns.map D.str)), .val (.int top)]) fun q => q = (.val .non, [.own (.ins 0 [.tup (ss.map D.str), .tup (ns.map D.str), .int top]), .non, .non, .non])
theorem initS {C : Mi.Ctx} (hg : C.gl = glD) (hA : ArS (C.ft 3)) (hW : IsW (C.ft 1)) : InitS (runD C t33) := by
  intro ss ns top ht h1 h2 h3
  refine gd_run rfl ?_
  show Gv (exs C b33 [.own (.ins 0 []), .val (.tup (ss.map D.str)), .val (.tup (ns.map D.str)), .val (.int top), .un]) _
  unfold b33
  repeat walk_at "w"
  refine gv_glb ?_
  rw [hg]
  repeat walk_at "w"
  refine callT_gv rfl rfl (gv_mono (hA ss 3 h1 (by decide) ht.okS ht.upS) ?_)
  rintro _ rfl
  repeat walk_at "w"
  refine gv_glb ?_
  rw [hg]
  repeat walk_at "w"
  refine callT_gv rfl rfl (gv_mono (hA ns 2 h2 (by decide) ht.okN ht.upN) ?_)
  rintro _ rfl
  repeat walk_at "w"
  refine len_lst (by omega) ?_
  refine cpr_map D.str (fun _ => .bl false) (fun s hs => ?_) ?_
  · repeat walk_at "w"
    refine gv_is (a := false) ?_ ?_
    · show (if flat (.str s) && flats (ss.map D.str) then some (isIn (.str s) (ss.map D.str)) else none) = _
      have : ss.contains s = false := by
        cases e : ss.contains s with
        | false => rfl
        | true => exact absurd hs (ht.apart s (by simpa using e))
      rw [flats_strs, isIn_strs, this]
      rfl
    repeat walk_at "w"
  have e2 : (ns.map fun _ => D.bl false) = (ns.map fun _ => false).map D.bl := by rw [List.map_map]; rfl
  rw [e2]
  repeat walk_at "w"
  have e3 : ((ns.map fun _ => false).any id) = false := by simp
  rw [e3]
  refine if_b (fun z => by cases z) (fun _ => ?_)
  repeat walk_at "w"
  refine callT_gv rfl rfl (gv_mono (hW (.int top) (some 1) rfl) ?_)
  rintro _ rfl
  have e4 : wholeB (.int top) (some 1) = true := by
    show (!decide (top < 1)) = true
    rw [decide_eq_false (by omega)]
    rfl
  repeat walk_at "w"
  rw [e4]
  repeat walk_at "w"
  refine gs_setf ?_
  repeat walk_at "w"
  refine ⟨0, _, _, rfl, rfl, rfl, ?_⟩
  repeat walk_at "w"
  refine gs_setf ?_
  repeat walk_at "w"
  refine ⟨0, _, _, rfl, rfl, rfl, ?_⟩
  repeat walk_at "w"
  refine gs_setf ?_
  repeat walk_at "w"
  refine ⟨0, _, _, rfl, rfl, rfl, ?_⟩
  repeat walk_at "w"
  rfl
/-- C(names, numbers, most=top), called -/
theorem talk_c {C : Mi.Ctx} {Γ : G} {ss ns : List Str} {top : Int} {P : R × G → Prop} (hI : InitS (C.fi 33)) (ht : TongueOk ss ns) (h1 : ss.length ≤ 3) (h2 : ns.length ≤ 2) (h3 : 1 ≤ top) (p : P (.fr (.ins 0 [.tup (ss.map D.str), .tup (ns.map D.str), .int top]), Γ)) :
    Gv (makeT C.fi 0 33 [.arg 0, .arg 1, .arg 2, .arg 3] [.val (.tup (ss.map D.str)), .val (.tup (ns.map D.str)), .val (.int top)] Γ) P := by
  refine makeT_gv rfl rfl (gv_mono (hI ss ns top ht h1 h2 h3) ?_)
  rintro _ rfl
  exact ⟨_, _, rfl, p⟩

def RegS (f : Sem1) : Prop := ∀ (ss ns : List Str) (top : Int), ss.length ≤ 5 → Gv (f [.val (talkD ss ns top)]) fun q => q = (.val (.int ((2 ^ ss.length : Nat) : Int)), [.non])
theorem regS {C : Mi.Ctx} : RegS (runD C t34) := by
  intro ss ns top h
  refine gd_run rfl ?_
  show Gv (exs C b34 [.val (talkD ss ns top)]) _
  unfold b34
  repeat walk_at "w"
  rw [len_map]
  refine gv_is (a := .val (.int ((2 ^ ss.length : Nat) : Int))) ?_ ?_
  · show (if shlOk 1 (ss.length : Int) then vl (.int (1 * 2 ^ (ss.length : Int).toNat)) else none) = _
    rw [if_pos ⟨by omega, by omega, by decide⟩, Int.one_mul, Int.toNat_natCast, Int.natCast_pow]
    rfl
  repeat walk_at "w"
  exact gv_is rfl rfl

def NumsS (f : Sem1) : Prop := ∀ (ss ns : List Str) (top : Int), Gv (f [.val (talkD ss ns top)]) fun q => q = (.val (.tup (ns.map D.str)), [.non])
theorem numsS {C : Mi.Ctx} : NumsS (runD C t35) := by
  intro ss ns top
  refine gd_run rfl ?_
  show Gv (exs C b35 [.val (talkD ss ns top)]) _
  unfold b35
  repeat walk_at "w"
  exact gv_is rfl rfl

def SetsS (f : Sem1) : Prop := ∀ (ss ns : List Str) (top : Int), Gv (f [.val (talkD ss ns top)]) fun q => q = (.val (.tup (ss.map D.str)), [.non])
theorem setsS {C : Mi.Ctx} : SetsS (runD C t38) := by
  intro ss ns top
  refine gd_run rfl ?_
  show Gv (exs C b38 [.val (talkD ss ns top)]) _
  unfold b38
  repeat walk_at "w"
  exact gv_is rfl rfl

def LW (f : Sem1) : Prop := ∀ (d : D), okW d = true → Gv (f [.val d]) fun q => q = (.val (.bl (wholeB d none)), [.non])
theorem lW {C : Mi.Ctx} : LW (runD C t21) := by
  intro d hd
  refine gd_run rfl ?_
  show Gv (exs C b21 [.val d]) _
  unfold b21
  cases d with
  | scr _ => cases hd
  | ins _ _ => cases hd
  | _ =>
    repeat walk_at "w"
    exact gv_is rfl rfl

end Lk12

namespace Lk12
open Mi PySem L2
local macro_rules | `(tactic| walk_at "s") => `(tactic| (
  first
  | (with_reducible refine gs_cons ?_)
  | (with_reducible refine gs_asg ?_)
  | (with_reducible refine gs_ret ?_)
  | (with_reducible refine gs_exp ?_)
  | (with_reducible refine gs_setx ?_)
  | (with_reducible refine gs_nil ?_)
  | (with_reducible refine gv_con ?_)
  | ((with_reducible apply gv_var); exact rfl)
  | (with_reducible refine gv_bin ?_)
  | (with_reducible refine gv_cmp ?_)
  | (with_reducible refine gt_cmp ?_)
  | (with_reducible refine gv_idx ?_)
  | (with_reducible refine gv_bi ?_)
  | (with_reducible refine gt_bi ?_)
  | (with_reducible refine gv_cal ?_)
  | (with_reducible refine gv_tup ?_)
  | (with_reducible refine gv_lst ?_)
  | (with_reducible refine gv_slc ?_)
  | (with_reducible refine gv_not ?_)
  | (with_reducible refine gt_not ?_)
  | (with_reducible refine gf_nil ?_)
  | (with_reducible refine gf_cons ?_)
  | (with_reducible refine ga_nil ?_)
  | (with_reducible refine ga_cons ?_)
  | (with_reducible refine go_non ?_)
  | ((with_reducible apply gl_look); exact rfl)
  | ((with_reducible apply gl_frz); exact rfl)
  | (with_reducible refine gl_add ?_)
  | (with_reducible refine gl_sub ?_)
  | (with_reducible refine gl_lt ?_)
  | (with_reducible refine gl_le ?_)
  | (with_reducible refine gl_gt ?_)
  | (with_reducible refine gl_ge ?_)
  | (with_reducible refine gl_eq ?_)
  | (with_reducible refine gl_ne ?_)
  | (with_reducible refine gs_ife ?_)
  | (with_reducible refine gv_ite ?_)
  | ((with_reducible apply gl_rest); exact rfl)
  | ((with_reducible apply gl_put); exact rfl)
  | ((with_reducible apply gl_acc); exact rfl)
  | ((with_reducible apply gl_map); exact rfl)
  | ((with_reducible apply gl_tru); exact rfl)
  try dsimp only [List.set_cons_succ, List.set_cons_zero]))
local macro_rules | `(tactic| walk_at "w") => `(tactic| (
  first
  | (with_reducible refine gs_cons ?_)
  | (with_reducible refine gs_asg ?_)
  | (with_reducible refine gs_ret ?_)
  | (with_reducible refine gs_exp ?_)
  | (with_reducible refine gs_setx ?_)
  | (with_reducible refine gs_nil ?_)
  | (with_reducible refine gv_con ?_)
  | ((with_reducible apply gv_var); exact rfl)
  | ((with_reducible apply gt_var); exact rfl)
  | (with_reducible refine gv_bin ?_)
  | (with_reducible refine gv_cmp ?_)
  | (with_reducible refine gt_cmp ?_)
  | (with_reducible refine gv_idx ?_)
  | (with_reducible refine gv_bi ?_)
  | (with_reducible refine gt_bi ?_)
  | (with_reducible refine gv_isi1 ?_)
  | (with_reducible refine gt_isi1 ?_)
  | (with_reducible refine gv_cal ?_)
  | (with_reducible refine gv_fld ?_)
  | ((with_reducible apply gl_fld); exact rfl)
  | (with_reducible refine gv_mcl ?_)
  | (with_reducible refine gt_mcl ?_)
  | (with_reducible refine ins_is ?_)
  | (with_reducible refine gv_mk ?_)
  | (with_reducible refine gt_cal ?_)
  | (with_reducible refine gv_tup ?_)
  | (with_reducible refine gv_lst ?_)
  | (with_reducible refine gv_slc ?_)
  | (with_reducible refine gv_slx ?_)
  | (with_reducible refine gv_not ?_)
  | (with_reducible refine gt_not ?_)
  | (with_reducible refine gv_neg ?_)
  | (with_reducible refine gv_and ?_)
  | (with_reducible refine gv_or ?_)
  | (with_reducible refine gt_and ?_)
  | (with_reducible refine gt_or ?_)
  | (with_reducible refine gv_emp ?_)
  | (with_reducible refine gv_cpr ?_)
  | (with_reducible refine gs_for ?_)
  | (with_reducible refine gi_seq ?_)
  | (with_reducible refine gi_rng1 ?_)
  | (with_reducible refine gi_zip ?_)
  | (with_reducible refine gi_enu ?_)
  | (with_reducible refine gi_rev ?_)
  | (with_reducible refine gs_augx ?_)
  | (with_reducible refine gs_par ?_)
  | ((with_reducible apply gs_aug); exact rfl)
  | (with_reducible refine gl_aadd ?_)
  | (with_reducible refine gl_asub ?_)
  | (with_reducible refine gc_non ?_)
  | (with_reducible refine gc_som ?_)
  | (with_reducible refine turnK_gv ?_)
  | (with_reducible refine turnL_gv ?_)
  | (with_reducible refine gf_nil ?_)
  | (with_reducible refine gf_cons ?_)
  | (with_reducible refine ga_nil ?_)
  | (with_reducible refine ga_cons ?_)
  | (with_reducible refine go_non ?_)
  | (with_reducible refine go_som ?_)
  | (with_reducible refine ex_int ?_)
  | (with_reducible refine ex_bl ?_)
  | (with_reducible refine it_ ?_)
  | (with_reducible refine if_ ?_)
  | (with_reducible refine nit_ ?_)
  | (with_reducible refine nif_ ?_)
  | ((with_reducible apply gl_look); exact rfl)
  | ((with_reducible apply gl_frz); exact rfl)
  | (with_reducible refine gl_add ?_)
  | (with_reducible refine gl_sub ?_)
  | (with_reducible refine gl_lt ?_)
  | (with_reducible refine gl_le ?_)
  | (with_reducible refine gl_gt ?_)
  | (with_reducible refine gl_ge ?_)
  | (with_reducible refine gl_eq ?_)
  | (with_reducible refine gl_ne ?_)
  | (with_reducible refine gl_eqs ?_)
  | (with_reducible refine gl_nes ?_)
  | (with_reducible refine gl_eqb ?_)
  | (with_reducible refine gl_neb ?_)
  | (with_reducible refine gl_mul (mulOk_s (small60 (by omega)) (small60 (by omega))) ?_)
  | ((with_reducible apply gl_pow); exact ⟨by decide, .inl ⟨by decide, by decide⟩⟩)
  | (with_reducible refine gl_mod (by omega) ?_)
  | (with_reducible refine gl_div (divOk_s (small60 (by omega)) (by omega)) ?_)
  | (with_reducible refine gl_len ?_)
  | (with_reducible refine gl_lenT ?_)
  | (with_reducible refine gl_abs ?_)
  | (with_reducible refine gs_whl ?_)
  | (with_reducible refine gl_sum ?_)
  | (with_reducible refine gl_sum2 ?_)
  | (with_reducible refine gl_all ?_)
  | (with_reducible refine gl_any ?_)
  | (with_reducible refine gs_ife ?_)
  | (with_reducible refine gv_ite ?_)
  | ((with_reducible apply gl_rest); exact rfl)
  | ((with_reducible apply gl_put); exact rfl)
  | ((with_reducible apply gl_acc); exact rfl)
  | (with_reducible refine gl_map1 rfl ?_)
  | (with_reducible refine gl_map2 rfl rfl ?_)
  | ((with_reducible apply gl_map); exact rfl)
  | ((with_reducible apply gl_tru); exact rfl)
  | ((with_reducible apply gl_walk); exact rfl)
  | ((with_reducible apply gl_items); exact rfl)
  | ((with_reducible apply gl_ty); exact rfl)
  | (with_reducible refine gl_slc1T ?_)
  | (with_reducible refine gl_slc1L ?_)
  | (with_reducible refine gl_slcTa ?_)
  | (with_reducible refine gl_slcTb ?_)
  | (with_reducible refine gl_slcLa ?_)
  | (with_reducible refine gl_slcLb ?_)
  | ((with_reducible apply gl_idxt); exact rfl)
  | ((with_reducible apply gl_idxl); exact rfl)
  | ((with_reducible apply gl_bi); exact rfl)
  | ((with_reducible apply gl_cop); exact rfl)
  | dsimp only [List.set_cons_succ, List.set_cons_zero, backs, Out.en, Rt.r, lend, back, restG, wipeG, Option.toList, List.nil_append, List.append_nil, List.cons_append, List.getElem?_cons_zero, List.getElem?_cons_succ, OD.d, Mi.isNon, List.map]
  try dsimp only [List.set_cons_succ, List.set_cons_zero, backs, Out.en, Rt.r, lend, back, restG, wipeG, Option.toList, List.nil_append, List.append_nil, List.cons_append, List.getElem?_cons_zero, List.getElem?_cons_succ, OD.d, Mi.isNon, List.map]))
set_option hygiene false in
local macro_rules | `(tactic| walk_at "take") => `(tactic| (
  refine take_c rfl rfl (by assumption) (by assumption) (by omega) (small60 (by omega)) (by omega) ?_
  intro r o ra rb hp
  dsimp only [List.set_cons_succ, List.set_cons_zero, backs, Out.en, Rt.r, lend, back, restG, wipeG, Option.toList, List.nil_append, List.append_nil, List.cons_append, List.getElem?_cons_zero, List.getElem?_cons_succ, OD.d, Mi.isNon, List.map]))

/-! ### terms: what they are as data, what they say of a region -/
inductive Tm where
  | nm (s : Str) | all | none | not (t : Tm) | and (a b : Tm) | or (a b : Tm) | but (a b : Tm)
def Tm.d : Tm → D
  | .nm s => .str s
  | .all => .tup [.str "all"]
  | .none => .tup [.str "none"]
  | .not t => .tup [.str "not", t.d]
  | .and a b => .tup [.str "and", a.d, b.d]
  | .or a b => .tup [.str "or", a.d, b.d]
  | .but a b => .tup [.str "but", a.d, b.d]
def Tm.dep : Tm → Nat
  | .nm _ => 1
  | .all => 1
  | .none => 1
  | .not t => t.dep + 1
  | .and a b => max a.dep b.dep + 1
  | .or a b => max a.dep b.dep + 1
  | .but a b => max a.dep b.dep + 1
def Tm.parts : Tm → Nat
  | .nm _ => 1
  | .all => 1
  | .none => 1
  | .not t => t.parts + 1
  | .and a b => a.parts + b.parts + 1
  | .or a b => a.parts + b.parts + 1
  | .but a b => a.parts + b.parts + 1
def Tm.ok (ss : List Str) : Tm → Prop
  | .nm s => s ∈ ss
  | .all => True
  | .none => True
  | .not t => t.ok ss
  | .and a b => a.ok ss ∧ b.ok ss
  | .or a b => a.ok ss ∧ b.ok ss
  | .but a b => a.ok ss ∧ b.ok ss
def Tm.ev (f : Str → Bool) : Tm → Bool
  | .nm s => f s
  | .all => true
  | .none => false
  | .not t => !t.ev f
  | .and a b => a.ev f && b.ev f
  | .or a b => a.ev f || b.ev f
  | .but a b => a.ev f && !b.ev f
theorem Tm.dep_pos (t : Tm) : 1 ≤ t.dep := by cases t <;> simp [Tm.dep]
/-- does the region lie within the set of that name -/
def lieV (ss : List Str) (r : Nat) (s : Str) : Bool := match ss.findIdx? (fun z => z == s) with
  | some k => (r / 2 ^ k) % 2 == 1
  | none => false
theorem idx_at {ss : List Str} {i : Nat} {s : Str} (h : ss[i]? = some s) (hn : s ∉ ss.take i) : ss.findIdx? (fun z => z == s) = some i := by
  obtain ⟨hl, he⟩ := List.getElem?_eq_some_iff.mp h
  rw [List.findIdx?_eq_some_iff_getElem]
  refine ⟨hl, by simp [he], fun j hj => ?_⟩
  have hjl : j < ss.length := by omega
  intro e
  have e : ss[j] = s := by simpa using e
  refine hn ?_
  rw [← e]
  exact List.mem_take_iff_getElem.mpr ⟨j, by omega, rfl⟩
theorem gl_tindex {fs : List Str} {x : Str} {Q : R → Prop} (h : x ∈ fs) (p : ∀ k, fs.findIdx? (fun z => z == x) = some k → Q (.val (.int (k : Nat)))) : Gv (Mi.mth .tindex (.tup (fs.map D.str)) [.str x]) Q := by
  have hs : (fs.findIdx? fun z => z == x).isSome = true := by
    rw [List.findIdx?_isSome, List.any_eq_true]
    exact ⟨x, h, by simp⟩
  obtain ⟨k, hk⟩ := Option.isSome_iff_exists.mp hs
  refine gv_is (a := R.val (.int (k : Nat))) ?_ (p k hk)
  show (strsD _).bind _ = _
  rw [strs_map]
  show (fs.findIdx? fun z => z == x).bind _ = _
  rw [hk]
  rfl
theorem gl_notinT {x : Str} {fs : List Str} {Q : Bool → Prop} (p : Q (!fs.contains x)) : Gv (cop .NotIn (.str x) (.tup (fs.map D.str))) Q := by
  refine gv_is ?_ p
  show (if flat (.str x) && flats (fs.map D.str) then some (!isIn (.str x) (fs.map D.str)) else none) = _
  rw [flats_strs, isIn_strs]
  rfl
theorem gl_inT {x : Str} {fs : List Str} {Q : Bool → Prop} (p : Q (fs.contains x)) : Gv (cop .In (.str x) (.tup (fs.map D.str))) Q := by
  refine gv_is ?_ p
  show (if flat (.str x) && flats (fs.map D.str) then some (isIn (.str x) (fs.map D.str)) else none) = _
  rw [flats_strs, isIn_strs]
  rfl
theorem pw3 {k : Nat} (h : k ≤ 3) : 2 ^ k ≤ 8 := by
  rcases (show k = 0 ∨ k = 1 ∨ k = 2 ∨ k = 3 by omega) with rfl | rfl | rfl | rfl <;> decide
theorem shr_nat (r k : Nat) : ((r : Int) / 2 ^ ((k : Nat) : Int).toNat) = ((r / 2 ^ k : Nat) : Int) := by
  rw [Int.toNat_natCast, Int.natCast_ediv, Int.natCast_pow]
  rfl
theorem odd_nat (n : Nat) : (((n : Int).fmod 2) == 1) = (n % 2 == 1) := by
  rw [Int.fmod_eq_emod_of_nonneg _ (by decide), show ((n : Int) % 2) = ((n % 2 : Nat) : Int) from (Int.natCast_emod n 2).symm]
  rcases Nat.mod_two_eq_zero_or_one n with h | h <;> rw [h] <;> rfl
def NeedS (f : Sem1) : Prop := ∀ (ss ns : List Str) (top : Int) (r : Nat), ss.length ≤ 3 → r < 2 ^ ss.length → Gv (f [.val (talkD ss ns top), .val (.int r)]) fun q => q = (.val .non, [.non, .non])
theorem needS {C : Mi.Ctx} (hI : IwS (C.ft 1)) (hR : RegS (C.ft 34)) : NeedS (runD C t40) := by
  intro ss ns top r hs hr
  refine gd_run rfl ?_
  show Gv (exs C b40 [.val (talkD ss ns top), .val (.int r)]) _
  unfold b40
  repeat walk_at "w"
  refine ins_is ?_
  repeat walk_at "w"
  refine callT_gv rfl rfl (gv_mono (hR ss ns top (by omega)) ?_)
  rintro _ rfl
  repeat walk_at "w"
  refine callT_gv rfl rfl (gv_mono (hI (.int r) (.int 0) (.int _) trivial (.inr ⟨_, rfl⟩) (.inr ⟨_, rfl⟩)) ?_)
  rintro _ rfl
  have e : whole3B (.int r) (.int 0) (.int ((2 ^ ss.length : Nat) - 1 : Int)) = true := by
    show (decide ((0 : Int) ≤ r) && decide ((r : Int) ≤ _)) = true
    generalize 2 ^ ss.length = m at *
    rw [decide_eq_true (by omega), decide_eq_true (by omega)]
    rfl
  rw [e]
  repeat walk_at "w"
  rfl
def LieS (f : Sem1) : Prop := ∀ (ss ns : List Str) (top : Int) (r : Nat) (s : Str), ss.length ≤ 3 → r < 2 ^ ss.length → s ∈ ss → Gv (f [.val (talkD ss ns top), .val (.int r), .val (.str s)]) fun q => q = (.val (.bl (lieV ss r s)), [.non, .non, .non])
theorem lieS {C : Mi.Ctx} (hN : NeedS (C.ft 40)) : LieS (runD C t39) := by
  intro ss ns top r s hs hr hm
  refine gd_run rfl ?_
  show Gv (exs C b39 [.val (talkD ss ns top), .val (.int r), .val (.str s)]) _
  unfold b39
  repeat walk_at "w"
  refine ins_is ?_
  repeat walk_at "w"
  refine callT_gv rfl rfl (gv_mono (hN ss ns top r hs hr) ?_)
  rintro _ rfl
  repeat walk_at "w"
  refine gl_notinT ?_
  rw [show ss.contains s = true from by simpa using hm]
  repeat walk_at "w"
  refine gv_mthG ?_
  repeat walk_at "w"
  refine ⟨rfl, ?_⟩
  repeat walk_at "w"
  refine gl_tindex hm fun k hk => ?_
  repeat walk_at "w"
  refine gv_is (a := .val (.int ((r / 2 ^ k : Nat) : Int))) (by
    show (if 0 ≤ ((k : Nat) : Int) then vl (.int ((r : Int) / 2 ^ ((k : Nat) : Int).toNat)) else none) = _
    rw [if_pos (by omega), shr_nat]
    rfl) ?_
  repeat walk_at "w"
  refine gv_is rfl ?_
  rw [odd_nat]
  unfold lieV
  rw [hk]
  rfl
/-! ### holds -/
local macro_rules | `(tactic| walk_at "e") => `(tactic| (first
  | walk_at "w"
  | (refine if_b (fun h => absurd h (by decide)) (fun _ => ?_))
  | (refine if_b (fun _ => ?_) (fun h => absurd h (by decide)))))
def HolS (k : Nat) (f : Sem1) : Prop := ∀ (ss ns : List Str) (top : Int) (r : Nat) (t : Tm), t.dep ≤ k → ss.length ≤ 3 → r < 2 ^ ss.length → t.ok ss → Gv (f [.val (talkD ss ns top), .val (.int r), .val t.d]) fun q => q = (.val (.bl (t.ev (lieV ss r))), [.non, .non, .non])
theorem holS0 (f : Sem1) : HolS 0 f := fun _ _ _ _ t h => absurd t.dep_pos (by omega)
theorem holS {k : Nat} {C : Mi.Ctx} (hL : LieS (C.ft 39)) (hH : HolS k (C.ft 6)) : HolS (k + 1) (runD C t6) := by
  intro ss ns top r t hd hs hr hok
  refine gd_run rfl ?_
  show Gv (exs C b6 [.val (talkD ss ns top), .val (.int r), .val t.d, .un, .un, .un, .un, .un, .un]) _
  unfold b6
  cases t with
  | nm s =>
    repeat walk_at "e"
    refine ins_is ?_
    repeat walk_at "e"
    refine callT_gv rfl rfl (gv_mono (hL ss ns top r s hs hr hok) ?_)
    rintro _ rfl
    repeat walk_at "e"
    exact gv_is rfl rfl
  | all =>
    dsimp only [Tm.d]
    repeat walk_at "e"
    refine ⟨by show List.length _ ≤ 16777216; simp, ?_⟩
    refine cprL_gv (fun _ acc Γ => acc = [] ∧ Γ = _) ⟨rfl, rfl⟩ (fun i d acc Γ hi _ => by simp at hi) ?_
    rintro acc Γ ⟨rfl, rfl⟩
    repeat walk_at "e"
    exact gv_is rfl rfl
  | none =>
    dsimp only [Tm.d]
    repeat walk_at "e"
    refine ⟨by show List.length _ ≤ 16777216; simp, ?_⟩
    refine cprL_gv (fun _ acc Γ => acc = [] ∧ Γ = _) ⟨rfl, rfl⟩ (fun i d acc Γ hi _ => by simp at hi) ?_
    rintro acc Γ ⟨rfl, rfl⟩
    repeat walk_at "e"
    exact gv_is rfl rfl
  | not t =>
    have hd : t.dep + 1 ≤ k + 1 := hd
    dsimp only [Tm.d]
    repeat walk_at "e"
    refine ⟨by show List.length _ ≤ 16777216; simp, ?_⟩
    refine cpr_map (xs := [t]) Tm.d (fun t => .bl (t.ev (lieV ss r))) (fun x hx => ?_) ?_
    · rw [List.mem_singleton.mp hx]
      repeat walk_at "e"
      refine callT_gv rfl rfl (gv_mono (hH ss ns top r t (by omega) hs hr hok) ?_)
      rintro _ rfl
      repeat walk_at "e"
    repeat walk_at "e"
    exact gv_is rfl rfl
  | and a b =>
    have hd : max a.dep b.dep + 1 ≤ k + 1 := hd
    obtain ⟨oa, ob⟩ := hok
    dsimp only [Tm.d]
    repeat walk_at "e"
    refine ⟨by show List.length _ ≤ 16777216; simp, ?_⟩
    refine cpr_map (xs := [a, b]) Tm.d (fun t => .bl (t.ev (lieV ss r))) (fun x hx => ?_) ?_
    · have hx : x.dep ≤ k ∧ x.ok ss := by
        rcases List.mem_cons.mp hx with rfl | hx
        · exact ⟨by omega, oa⟩
        · rw [List.mem_singleton.mp hx]; exact ⟨by omega, ob⟩
      repeat walk_at "e"
      refine callT_gv rfl rfl (gv_mono (hH ss ns top r x hx.1 hs hr hx.2) ?_)
      rintro _ rfl
      repeat walk_at "e"
    repeat walk_at "e"
    have e : Tm.ev (lieV ss r) (.and a b) = (a.ev (lieV ss r) && b.ev (lieV ss r)) := rfl
    rw [e]
    cases a.ev (lieV ss r) <;> cases b.ev (lieV ss r)
    all_goals
      repeat walk_at "e"
      exact gv_is rfl rfl
  | or a b =>
    have hd : max a.dep b.dep + 1 ≤ k + 1 := hd
    obtain ⟨oa, ob⟩ := hok
    dsimp only [Tm.d]
    repeat walk_at "e"
    refine ⟨by show List.length _ ≤ 16777216; simp, ?_⟩
    refine cpr_map (xs := [a, b]) Tm.d (fun t => .bl (t.ev (lieV ss r))) (fun x hx => ?_) ?_
    · have hx : x.dep ≤ k ∧ x.ok ss := by
        rcases List.mem_cons.mp hx with rfl | hx
        · exact ⟨by omega, oa⟩
        · rw [List.mem_singleton.mp hx]; exact ⟨by omega, ob⟩
      repeat walk_at "e"
      refine callT_gv rfl rfl (gv_mono (hH ss ns top r x hx.1 hs hr hx.2) ?_)
      rintro _ rfl
      repeat walk_at "e"
    repeat walk_at "e"
    have e : Tm.ev (lieV ss r) (.or a b) = (a.ev (lieV ss r) || b.ev (lieV ss r)) := rfl
    rw [e]
    cases a.ev (lieV ss r) <;> cases b.ev (lieV ss r)
    all_goals
      repeat walk_at "e"
      exact gv_is rfl rfl
  | but a b =>
    have hd : max a.dep b.dep + 1 ≤ k + 1 := hd
    obtain ⟨oa, ob⟩ := hok
    dsimp only [Tm.d]
    repeat walk_at "e"
    refine ⟨by show List.length _ ≤ 16777216; simp, ?_⟩
    refine cpr_map (xs := [a, b]) Tm.d (fun t => .bl (t.ev (lieV ss r))) (fun x hx => ?_) ?_
    · have hx : x.dep ≤ k ∧ x.ok ss := by
        rcases List.mem_cons.mp hx with rfl | hx
        · exact ⟨by omega, oa⟩
        · rw [List.mem_singleton.mp hx]; exact ⟨by omega, ob⟩
      repeat walk_at "e"
      refine callT_gv rfl rfl (gv_mono (hH ss ns top r x hx.1 hs hr hx.2) ?_)
      rintro _ rfl
      repeat walk_at "e"
    repeat walk_at "e"
    have e : Tm.ev (lieV ss r) (.but a b) = (a.ev (lieV ss r) && !b.ev (lieV ss r)) := rfl
    rw [e]
    cases a.ev (lieV ss r) <;> cases b.ev (lieV ss r)
    all_goals
      repeat walk_at "e"
      exact gv_is rfl rfl

end Lk12

namespace Lk12
open Mi PySem L2
local macro_rules | `(tactic| walk_at "s") => `(tactic| (
  first
  | (with_reducible refine gs_cons ?_)
  | (with_reducible refine gs_asg ?_)
  | (with_reducible refine gs_ret ?_)
  | (with_reducible refine gs_exp ?_)
  | (with_reducible refine gs_setx ?_)
  | (with_reducible refine gs_nil ?_)
  | (with_reducible refine gv_con ?_)
  | ((with_reducible apply gv_var); exact rfl)
  | (with_reducible refine gv_bin ?_)
  | (with_reducible refine gv_cmp ?_)
  | (with_reducible refine gt_cmp ?_)
  | (with_reducible refine gv_idx ?_)
  | (with_reducible refine gv_bi ?_)
  | (with_reducible refine gt_bi ?_)
  | (with_reducible refine gv_cal ?_)
  | (with_reducible refine gv_tup ?_)
  | (with_reducible refine gv_lst ?_)
  | (with_reducible refine gv_slc ?_)
  | (with_reducible refine gv_not ?_)
  | (with_reducible refine gt_not ?_)
  | (with_reducible refine gf_nil ?_)
  | (with_reducible refine gf_cons ?_)
  | (with_reducible refine ga_nil ?_)
  | (with_reducible refine ga_cons ?_)
  | (with_reducible refine go_non ?_)
  | ((with_reducible apply gl_look); exact rfl)
  | ((with_reducible apply gl_frz); exact rfl)
  | (with_reducible refine gl_add ?_)
  | (with_reducible refine gl_sub ?_)
  | (with_reducible refine gl_lt ?_)
  | (with_reducible refine gl_le ?_)
  | (with_reducible refine gl_gt ?_)
  | (with_reducible refine gl_ge ?_)
  | (with_reducible refine gl_eq ?_)
  | (with_reducible refine gl_ne ?_)
  | (with_reducible refine gs_ife ?_)
  | (with_reducible refine gv_ite ?_)
  | ((with_reducible apply gl_rest); exact rfl)
  | ((with_reducible apply gl_put); exact rfl)
  | ((with_reducible apply gl_acc); exact rfl)
  | ((with_reducible apply gl_map); exact rfl)
  | ((with_reducible apply gl_tru); exact rfl)
  try dsimp only [List.set_cons_succ, List.set_cons_zero]))
local macro_rules | `(tactic| walk_at "w") => `(tactic| (
  first
  | (with_reducible refine gs_cons ?_)
  | (with_reducible refine gs_asg ?_)
  | (with_reducible refine gs_ret ?_)
  | (with_reducible refine gs_exp ?_)
  | (with_reducible refine gs_setx ?_)
  | (with_reducible refine gs_nil ?_)
  | (with_reducible refine gv_con ?_)
  | ((with_reducible apply gv_var); exact rfl)
  | ((with_reducible apply gt_var); exact rfl)
  | (with_reducible refine gv_bin ?_)
  | (with_reducible refine gv_cmp ?_)
  | (with_reducible refine gt_cmp ?_)
  | (with_reducible refine gv_idx ?_)
  | (with_reducible refine gv_bi ?_)
  | (with_reducible refine gt_bi ?_)
  | (with_reducible refine gv_isi1 ?_)
  | (with_reducible refine gt_isi1 ?_)
  | (with_reducible refine gv_cal ?_)
  | (with_reducible refine gv_fld ?_)
  | ((with_reducible apply gl_fld); exact rfl)
  | (with_reducible refine gv_mcl ?_)
  | (with_reducible refine gt_mcl ?_)
  | (with_reducible refine ins_is ?_)
  | (with_reducible refine gv_mk ?_)
  | (with_reducible refine gt_cal ?_)
  | (with_reducible refine gv_tup ?_)
  | (with_reducible refine gv_lst ?_)
  | (with_reducible refine gv_slc ?_)
  | (with_reducible refine gv_slx ?_)
  | (with_reducible refine gv_not ?_)
  | (with_reducible refine gt_not ?_)
  | (with_reducible refine gv_neg ?_)
  | (with_reducible refine gv_and ?_)
  | (with_reducible refine gv_or ?_)
  | (with_reducible refine gt_and ?_)
  | (with_reducible refine gt_or ?_)
  | (with_reducible refine gv_emp ?_)
  | (with_reducible refine gv_cpr ?_)
  | (with_reducible refine gs_for ?_)
  | (with_reducible refine gi_seq ?_)
  | (with_reducible refine gi_rng1 ?_)
  | (with_reducible refine gi_zip ?_)
  | (with_reducible refine gi_enu ?_)
  | (with_reducible refine gi_rev ?_)
  | (with_reducible refine gs_augx ?_)
  | (with_reducible refine gs_par ?_)
  | ((with_reducible apply gs_aug); exact rfl)
  | (with_reducible refine gl_aadd ?_)
  | (with_reducible refine gl_asub ?_)
  | (with_reducible refine gc_non ?_)
  | (with_reducible refine gc_som ?_)
  | (with_reducible refine turnK_gv ?_)
  | (with_reducible refine turnL_gv ?_)
  | (with_reducible refine gf_nil ?_)
  | (with_reducible refine gf_cons ?_)
  | (with_reducible refine ga_nil ?_)
  | (with_reducible refine ga_cons ?_)
  | (with_reducible refine go_non ?_)
  | (with_reducible refine go_som ?_)
  | (with_reducible refine ex_int ?_)
  | (with_reducible refine ex_bl ?_)
  | (with_reducible refine it_ ?_)
  | (with_reducible refine if_ ?_)
  | (with_reducible refine nit_ ?_)
  | (with_reducible refine nif_ ?_)
  | ((with_reducible apply gl_look); exact rfl)
  | ((with_reducible apply gl_frz); exact rfl)
  | (with_reducible refine gl_add ?_)
  | (with_reducible refine gl_sub ?_)
  | (with_reducible refine gl_lt ?_)
  | (with_reducible refine gl_le ?_)
  | (with_reducible refine gl_gt ?_)
  | (with_reducible refine gl_ge ?_)
  | (with_reducible refine gl_eq ?_)
  | (with_reducible refine gl_ne ?_)
  | (with_reducible refine gl_eqs ?_)
  | (with_reducible refine gl_nes ?_)
  | (with_reducible refine gl_eqb ?_)
  | (with_reducible refine gl_neb ?_)
  | (with_reducible refine gl_mul (mulOk_s (small60 (by omega)) (small60 (by omega))) ?_)
  | ((with_reducible apply gl_pow); exact ⟨by decide, .inl ⟨by decide, by decide⟩⟩)
  | (with_reducible refine gl_mod (by omega) ?_)
  | (with_reducible refine gl_div (divOk_s (small60 (by omega)) (by omega)) ?_)
  | (with_reducible refine gl_len ?_)
  | (with_reducible refine gl_lenT ?_)
  | (with_reducible refine gl_abs ?_)
  | (with_reducible refine gs_whl ?_)
  | (with_reducible refine gl_sum ?_)
  | (with_reducible refine gl_sum2 ?_)
  | (with_reducible refine gl_all ?_)
  | (with_reducible refine gl_any ?_)
  | (with_reducible refine gs_ife ?_)
  | (with_reducible refine gv_ite ?_)
  | ((with_reducible apply gl_rest); exact rfl)
  | ((with_reducible apply gl_put); exact rfl)
  | ((with_reducible apply gl_acc); exact rfl)
  | (with_reducible refine gl_map1 rfl ?_)
  | (with_reducible refine gl_map2 rfl rfl ?_)
  | ((with_reducible apply gl_map); exact rfl)
  | ((with_reducible apply gl_tru); exact rfl)
  | ((with_reducible apply gl_walk); exact rfl)
  | ((with_reducible apply gl_items); exact rfl)
  | ((with_reducible apply gl_ty); exact rfl)
  | (with_reducible refine gl_slc1T ?_)
  | (with_reducible refine gl_slc1L ?_)
  | (with_reducible refine gl_slcTa ?_)
  | (with_reducible refine gl_slcTb ?_)
  | (with_reducible refine gl_slcLa ?_)
  | (with_reducible refine gl_slcLb ?_)
  | ((with_reducible apply gl_idxt); exact rfl)
  | ((with_reducible apply gl_idxl); exact rfl)
  | ((with_reducible apply gl_bi); exact rfl)
  | ((with_reducible apply gl_cop); exact rfl)
  | dsimp only [List.set_cons_succ, List.set_cons_zero, backs, Out.en, Rt.r, lend, back, restG, wipeG, Option.toList, List.nil_append, List.append_nil, List.cons_append, List.getElem?_cons_zero, List.getElem?_cons_succ, OD.d, Mi.isNon, List.map]
  try dsimp only [List.set_cons_succ, List.set_cons_zero, backs, Out.en, Rt.r, lend, back, restG, wipeG, Option.toList, List.nil_append, List.append_nil, List.cons_append, List.getElem?_cons_zero, List.getElem?_cons_succ, OD.d, Mi.isNon, List.map]))
set_option hygiene false in
local macro_rules | `(tactic| walk_at "take") => `(tactic| (
  refine take_c rfl rfl (by assumption) (by assumption) (by omega) (small60 (by omega)) (by omega) ?_
  intro r o ra rb hp
  dsimp only [List.set_cons_succ, List.set_cons_zero, backs, Out.en, Rt.r, lend, back, restG, wipeG, Option.toList, List.nil_append, List.append_nil, List.cons_append, List.getElem?_cons_zero, List.getElem?_cons_succ, OD.d, Mi.isNon, List.map]))

/-! ### the law's own readings of a term -/
def LawLieS (f : Sem1) : Prop := ∀ (ss : List Str) (r : Nat) (s : Str), ss.length ≤ 3 → s ∈ ss → Gv (f [.val (.tup (ss.map D.str)), .val (.int r), .val (.str s)]) fun q => q = (.val (.bl (lieV ss r s)), [.non, .non, .non])
theorem lawLieS {C : Mi.Ctx} : LawLieS (runD C t19) := by
  intro ss r s hs hm
  refine gd_run rfl ?_
  show Gv (exs C b19 [.val (.tup (ss.map D.str)), .val (.int r), .val (.str s), .un, .un]) _
  unfold b19
  repeat walk_at "w"
  refine for_list D.str (fun i Γ => ∃ x4, Γ = [.val (.tup (ss.map D.str)), .val (.int r), .val (.str s), .val (.int ((r / 2 ^ i : Nat) : Int)), x4] ∧ s ∉ ss.take i) ⟨_, by rw [Nat.pow_zero, Nat.div_one], by simp⟩ ?_ ?_
  · rintro i x Γ hx ⟨x4, rfl, hn⟩
    refine turnL_gv ?_
    refine gl_put rfl ?_
    dsimp only [List.set_cons_succ, List.set_cons_zero]
    repeat walk_at "w"
    cases hb : (x == s) with
    | true =>
      have e : x = s := eq_of_beq hb
      subst e
      repeat walk_at "w"
      refine gv_is rfl ?_
      rw [odd_nat]
      unfold lieV
      rw [idx_at hx hn]
      rfl
    | false =>
      repeat walk_at "w"
      refine ⟨.val (.str x), ?_, ?_⟩
      · have : ((r / 2 ^ i : Nat) : Int).fdiv 2 = ((r / 2 ^ (i + 1) : Nat) : Int) := by
          rw [Int.fdiv_eq_ediv_of_nonneg _ (by decide), Nat.pow_succ, ← Nat.div_div_eq_div_mul]
          exact (Int.natCast_ediv _ 2).symm
        rw [this]
      · rw [List.take_add_one, hx]
        intro h
        rcases List.mem_append.mp h with h | h
        · exact hn h
        · have : s = x := by simpa using h
          rw [this] at hb
          simp at hb
  · rintro Γ ⟨x4, rfl, hn⟩
    rw [List.take_length] at hn
    exact absurd hm hn
local macro_rules | `(tactic| walk_at "e") => `(tactic| (first
  | walk_at "w"
  | (refine if_b (fun h => absurd h (by decide)) (fun _ => ?_))
  | (refine if_b (fun _ => ?_) (fun h => absurd h (by decide)))))
def LinS (k : Nat) (f : Sem1) : Prop := ∀ (ss : List Str) (r : Nat) (t : Tm), t.dep ≤ k → ss.length ≤ 3 → t.ok ss → Gv (f [.val (.tup (ss.map D.str)), .val (.int r), .val t.d]) fun q => q = (.val (.bl (t.ev (lieV ss r))), [.non, .non, .non])
theorem linS0 (f : Sem1) : LinS 0 f := fun _ _ t h => absurd t.dep_pos (by omega)
theorem linS {k : Nat} {C : Mi.Ctx} (hL : LawLieS (C.ft 19)) (hH : LinS k (C.ft 20)) : LinS (k + 1) (runD C t20) := by
  intro ss r t hd hs hok
  refine gd_run rfl ?_
  show Gv (exs C b20 [.val (.tup (ss.map D.str)), .val (.int r), .val t.d, .un, .un]) _
  unfold b20
  cases t with
  | nm s =>
    repeat walk_at "e"
    refine callT_gv rfl rfl (gv_mono (hL ss r s hs hok) ?_)
    rintro _ rfl
    repeat walk_at "e"
    exact gv_is rfl rfl
  | all =>
    dsimp only [Tm.d]
    repeat walk_at "e"
    exact gv_is rfl rfl
  | none =>
    dsimp only [Tm.d]
    repeat walk_at "e"
    exact gv_is rfl rfl
  | not t =>
    have hd : t.dep + 1 ≤ k + 1 := hd
    dsimp only [Tm.d]
    repeat walk_at "e"
    refine callT_gv rfl rfl (gv_mono (hH ss r t (by omega) hs hok) ?_)
    rintro _ rfl
    repeat walk_at "e"
    exact gv_is rfl rfl
  | and a b =>
    have hd : max a.dep b.dep + 1 ≤ k + 1 := hd
    obtain ⟨oa, ob⟩ := hok
    dsimp only [Tm.d]
    repeat walk_at "e"
    refine callT_gv rfl rfl (gv_mono (hH ss r a (by omega) hs oa) ?_)
    rintro _ rfl
    repeat walk_at "e"
    refine callT_gv rfl rfl (gv_mono (hH ss r b (by omega) hs ob) ?_)
    rintro _ rfl
    have e : Tm.ev (lieV ss r) (.and a b) = (a.ev (lieV ss r) && b.ev (lieV ss r)) := rfl
    rw [e]
    cases a.ev (lieV ss r) <;> cases b.ev (lieV ss r)
    all_goals
      repeat walk_at "e"
      exact gv_is rfl rfl
  | or a b =>
    have hd : max a.dep b.dep + 1 ≤ k + 1 := hd
    obtain ⟨oa, ob⟩ := hok
    dsimp only [Tm.d]
    repeat walk_at "e"
    refine callT_gv rfl rfl (gv_mono (hH ss r a (by omega) hs oa) ?_)
    rintro _ rfl
    repeat walk_at "e"
    refine callT_gv rfl rfl (gv_mono (hH ss r b (by omega) hs ob) ?_)
    rintro _ rfl
    have e : Tm.ev (lieV ss r) (.or a b) = (a.ev (lieV ss r) || b.ev (lieV ss r)) := rfl
    rw [e]
    cases a.ev (lieV ss r) <;> cases b.ev (lieV ss r)
    all_goals
      repeat walk_at "e"
      exact gv_is rfl rfl
  | but a b =>
    have hd : max a.dep b.dep + 1 ≤ k + 1 := hd
    obtain ⟨oa, ob⟩ := hok
    dsimp only [Tm.d]
    repeat walk_at "e"
    refine callT_gv rfl rfl (gv_mono (hH ss r a (by omega) hs oa) ?_)
    rintro _ rfl
    repeat walk_at "e"
    refine callT_gv rfl rfl (gv_mono (hH ss r b (by omega) hs ob) ?_)
    rintro _ rfl
    have e : Tm.ev (lieV ss r) (.but a b) = (a.ev (lieV ss r) && !b.ev (lieV ss r)) := rfl
    rw [e]
    cases a.ev (lieV ss r) <;> cases b.ev (lieV ss r)
    all_goals
      repeat walk_at "e"
      exact gv_is rfl rfl

end Lk12

namespace Lk12
open Mi PySem L2
local macro_rules | `(tactic| walk_at "s") => `(tactic| (
  first
  | (with_reducible refine gs_cons ?_)
  | (with_reducible refine gs_asg ?_)
  | (with_reducible refine gs_ret ?_)
  | (with_reducible refine gs_exp ?_)
  | (with_reducible refine gs_setx ?_)
  | (with_reducible refine gs_nil ?_)
  | (with_reducible refine gv_con ?_)
  | ((with_reducible apply gv_var); exact rfl)
  | (with_reducible refine gv_bin ?_)
  | (with_reducible refine gv_cmp ?_)
  | (with_reducible refine gt_cmp ?_)
  | (with_reducible refine gv_idx ?_)
  | (with_reducible refine gv_bi ?_)
  | (with_reducible refine gt_bi ?_)
  | (with_reducible refine gv_cal ?_)
  | (with_reducible refine gv_tup ?_)
  | (with_reducible refine gv_lst ?_)
  | (with_reducible refine gv_slc ?_)
  | (with_reducible refine gv_not ?_)
  | (with_reducible refine gt_not ?_)
  | (with_reducible refine gf_nil ?_)
  | (with_reducible refine gf_cons ?_)
  | (with_reducible refine ga_nil ?_)
  | (with_reducible refine ga_cons ?_)
  | (with_reducible refine go_non ?_)
  | ((with_reducible apply gl_look); exact rfl)
  | ((with_reducible apply gl_frz); exact rfl)
  | (with_reducible refine gl_add ?_)
  | (with_reducible refine gl_sub ?_)
  | (with_reducible refine gl_lt ?_)
  | (with_reducible refine gl_le ?_)
  | (with_reducible refine gl_gt ?_)
  | (with_reducible refine gl_ge ?_)
  | (with_reducible refine gl_eq ?_)
  | (with_reducible refine gl_ne ?_)
  | (with_reducible refine gs_ife ?_)
  | (with_reducible refine gv_ite ?_)
  | ((with_reducible apply gl_rest); exact rfl)
  | ((with_reducible apply gl_put); exact rfl)
  | ((with_reducible apply gl_acc); exact rfl)
  | ((with_reducible apply gl_map); exact rfl)
  | ((with_reducible apply gl_tru); exact rfl)
  try dsimp only [List.set_cons_succ, List.set_cons_zero]))
local macro_rules | `(tactic| walk_at "w") => `(tactic| (
  first
  | (with_reducible refine gs_cons ?_)
  | (with_reducible refine gs_asg ?_)
  | (with_reducible refine gs_ret ?_)
  | (with_reducible refine gs_exp ?_)
  | (with_reducible refine gs_setx ?_)
  | (with_reducible refine gs_nil ?_)
  | (with_reducible refine gv_con ?_)
  | ((with_reducible apply gv_var); exact rfl)
  | ((with_reducible apply gt_var); exact rfl)
  | (with_reducible refine gv_bin ?_)
  | (with_reducible refine gv_cmp ?_)
  | (with_reducible refine gt_cmp ?_)
  | (with_reducible refine gv_idx ?_)
  | (with_reducible refine gv_bi ?_)
  | (with_reducible refine gt_bi ?_)
  | (with_reducible refine gv_isi1 ?_)
  | (with_reducible refine gt_isi1 ?_)
  | (with_reducible refine gv_cal ?_)
  | (with_reducible refine gv_fld ?_)
  | ((with_reducible apply gl_fld); exact rfl)
  | (with_reducible refine gv_mcl ?_)
  | (with_reducible refine gt_mcl ?_)
  | (with_reducible refine ins_is ?_)
  | (with_reducible refine gv_mk ?_)
  | (with_reducible refine gt_cal ?_)
  | (with_reducible refine gv_tup ?_)
  | (with_reducible refine gv_lst ?_)
  | (with_reducible refine gv_slc ?_)
  | (with_reducible refine gv_slx ?_)
  | (with_reducible refine gv_not ?_)
  | (with_reducible refine gt_not ?_)
  | (with_reducible refine gv_neg ?_)
  | (with_reducible refine gv_and ?_)
  | (with_reducible refine gv_or ?_)
  | (with_reducible refine gt_and ?_)
  | (with_reducible refine gt_or ?_)
  | (with_reducible refine gv_emp ?_)
  | (with_reducible refine gv_cpr ?_)
  | (with_reducible refine gs_for ?_)
  | (with_reducible refine gi_seq ?_)
  | (with_reducible refine gi_rng1 ?_)
  | (with_reducible refine gi_zip ?_)
  | (with_reducible refine gi_enu ?_)
  | (with_reducible refine gi_rev ?_)
  | (with_reducible refine gs_augx ?_)
  | (with_reducible refine gs_par ?_)
  | ((with_reducible apply gs_aug); exact rfl)
  | (with_reducible refine gl_aadd ?_)
  | (with_reducible refine gl_asub ?_)
  | (with_reducible refine gc_non ?_)
  | (with_reducible refine gc_som ?_)
  | (with_reducible refine turnK_gv ?_)
  | (with_reducible refine turnL_gv ?_)
  | (with_reducible refine gf_nil ?_)
  | (with_reducible refine gf_cons ?_)
  | (with_reducible refine ga_nil ?_)
  | (with_reducible refine ga_cons ?_)
  | (with_reducible refine go_non ?_)
  | (with_reducible refine go_som ?_)
  | (with_reducible refine ex_int ?_)
  | (with_reducible refine ex_bl ?_)
  | (with_reducible refine it_ ?_)
  | (with_reducible refine if_ ?_)
  | (with_reducible refine nit_ ?_)
  | (with_reducible refine nif_ ?_)
  | ((with_reducible apply gl_look); exact rfl)
  | ((with_reducible apply gl_frz); exact rfl)
  | (with_reducible refine gl_add ?_)
  | (with_reducible refine gl_sub ?_)
  | (with_reducible refine gl_lt ?_)
  | (with_reducible refine gl_le ?_)
  | (with_reducible refine gl_gt ?_)
  | (with_reducible refine gl_ge ?_)
  | (with_reducible refine gl_eq ?_)
  | (with_reducible refine gl_ne ?_)
  | (with_reducible refine gl_eqs ?_)
  | (with_reducible refine gl_nes ?_)
  | (with_reducible refine gl_eqb ?_)
  | (with_reducible refine gl_neb ?_)
  | (with_reducible refine gl_mul (mulOk_s (small60 (by omega)) (small60 (by omega))) ?_)
  | ((with_reducible apply gl_pow); exact ⟨by decide, .inl ⟨by decide, by decide⟩⟩)
  | (with_reducible refine gl_mod (by omega) ?_)
  | (with_reducible refine gl_div (divOk_s (small60 (by omega)) (by omega)) ?_)
  | (with_reducible refine gl_len ?_)
  | (with_reducible refine gl_lenT ?_)
  | (with_reducible refine gl_abs ?_)
  | (with_reducible refine gs_whl ?_)
  | (with_reducible refine gl_sum ?_)
  | (with_reducible refine gl_sum2 ?_)
  | (with_reducible refine gl_all ?_)
  | (with_reducible refine gl_any ?_)
  | (with_reducible refine gs_ife ?_)
  | (with_reducible refine gv_ite ?_)
  | ((with_reducible apply gl_rest); exact rfl)
  | ((with_reducible apply gl_put); exact rfl)
  | ((with_reducible apply gl_acc); exact rfl)
  | (with_reducible refine gl_map1 rfl ?_)
  | (with_reducible refine gl_map2 rfl rfl ?_)
  | ((with_reducible apply gl_map); exact rfl)
  | ((with_reducible apply gl_tru); exact rfl)
  | ((with_reducible apply gl_walk); exact rfl)
  | ((with_reducible apply gl_items); exact rfl)
  | ((with_reducible apply gl_ty); exact rfl)
  | (with_reducible refine gl_slc1T ?_)
  | (with_reducible refine gl_slc1L ?_)
  | (with_reducible refine gl_slcTa ?_)
  | (with_reducible refine gl_slcTb ?_)
  | (with_reducible refine gl_slcLa ?_)
  | (with_reducible refine gl_slcLb ?_)
  | ((with_reducible apply gl_idxt); exact rfl)
  | ((with_reducible apply gl_idxl); exact rfl)
  | ((with_reducible apply gl_bi); exact rfl)
  | ((with_reducible apply gl_cop); exact rfl)
  | dsimp only [List.set_cons_succ, List.set_cons_zero, backs, Out.en, Rt.r, lend, back, restG, wipeG, Option.toList, List.nil_append, List.append_nil, List.cons_append, List.getElem?_cons_zero, List.getElem?_cons_succ, OD.d, Mi.isNon, List.map]
  try dsimp only [List.set_cons_succ, List.set_cons_zero, backs, Out.en, Rt.r, lend, back, restG, wipeG, Option.toList, List.nil_append, List.append_nil, List.cons_append, List.getElem?_cons_zero, List.getElem?_cons_succ, OD.d, Mi.isNon, List.map]))
set_option hygiene false in
local macro_rules | `(tactic| walk_at "take") => `(tactic| (
  refine take_c rfl rfl (by assumption) (by assumption) (by omega) (small60 (by omega)) (by omega) ?_
  intro r o ra rb hp
  dsimp only [List.set_cons_succ, List.set_cons_zero, backs, Out.en, Rt.r, lend, back, restG, wipeG, Option.toList, List.nil_append, List.append_nil, List.cons_append, List.getElem?_cons_zero, List.getElem?_cons_succ, OD.d, Mi.isNon, List.map]))

/-! ### how many parts a term has -/
def Tm.word : Tm → Str
  | .nm s => s
  | .all => "all"
  | .none => "none"
  | .not _ => "not"
  | .and _ _ => "and"
  | .or _ _ => "or"
  | .but _ _ => "but"
def Tm.kids : Tm → List Tm
  | .not t => [t]
  | .and a b => [a, b]
  | .or a b => [a, b]
  | .but a b => [a, b]
  | _ => []
def Tm.isNm : Tm → Bool
  | .nm _ => true
  | _ => false
theorem Tm.d_tup {t : Tm} (h : t.isNm = false) : t.d = .tup (.str t.word :: t.kids.map Tm.d) := by cases t <;> first | rfl | cases h
theorem Tm.kids_dep {t u : Tm} (h : u ∈ t.kids) : u.dep + 1 ≤ t.dep := by
  cases t <;> simp [Tm.kids] at h
  · subst h; exact Nat.le_refl _
  all_goals
    rcases h with rfl | rfl
    · show u.dep + 1 ≤ max u.dep _ + 1; omega
    · show u.dep + 1 ≤ max _ u.dep + 1; omega
theorem Tm.kids_ok {t u : Tm} {ss : List Str} (h : u ∈ t.kids) (ho : t.ok ss) : u.ok ss := by
  cases t <;> simp [Tm.kids] at h
  · subst h; exact ho
  all_goals
    rcases h with rfl | rfl
    · exact ho.1
    · exact ho.2
theorem Tm.parts_sum {t : Tm} : t.parts = 1 + (t.kids.map Tm.parts).sum := by cases t <;> simp [Tm.parts, Tm.kids] <;> omega
theorem Tm.parts_pos (t : Tm) : 1 ≤ t.parts := by rw [t.parts_sum]; omega
theorem Tm.kids_le (t : Tm) : t.kids.length ≤ 2 := by cases t <;> simp [Tm.kids]
theorem kid_get {t : Tm} (h : t.isNm = false) : kgetD (kdD 0) t.word = .int t.kids.length := by cases t <;> first | rfl | cases h
theorem plain_name {s : Str} {n : Nat} (h : NameOk s) : plainN n (.str s) = true := by
  obtain ⟨cs, rfl, _, _, hc⟩ := h
  cases n <;> (rw [plainN]; simp only [sT, List.all_toArray, List.all_eq_true, decide_eq_true_eq]; intro c hm; have := hc c hm; omega)
theorem plains_of {n : Nat} : ∀ {ds : List D}, (∀ d ∈ ds, plainN n d = true) → plainsN n ds = true
  | [], _ => by cases n <;> rfl
  | d :: ds, h => by rw [plainsN, h d List.mem_cons_self, plains_of fun x hx => h x (List.mem_cons_of_mem _ hx)]; rfl
theorem plain_lit {s : Str} (h : s.cps.all (· < 0x110000) = true) (n : Nat) : plainN n (.str s) = true := by cases n <;> (rw [plainN]; exact h)
theorem plain_word {t : Tm} {n : Nat} (h : t.isNm = false) : plainN n (.str t.word) = true := by
  cases t with
  | nm s => cases h
  | all => exact plain_lit (s := "all") (by decide +kernel) n
  | none => exact plain_lit (s := "none") (by decide +kernel) n
  | not _ => exact plain_lit (s := "not") (by decide +kernel) n
  | and _ _ => exact plain_lit (s := "and") (by decide +kernel) n
  | or _ _ => exact plain_lit (s := "or") (by decide +kernel) n
  | but _ _ => exact plain_lit (s := "but") (by decide +kernel) n
theorem plain_tm {ss : List Str} (hss : ∀ s ∈ ss, NameOk s) : ∀ (n : Nat) (t : Tm), t.dep ≤ n → t.ok ss → plainN n t.d = true
  | n, .nm s, _, ho => plain_name (hss s ho)
  | 0, t, hd, _ => absurd t.dep_pos (by omega)
  | n + 1, t, hd, ho => by
    cases hn : t.isNm with
    | true => cases t <;> first | exact plain_name (hss _ ho) | cases hn
    | false =>
      rw [Tm.d_tup hn, plainN]
      refine plains_of fun d hm => ?_
      rcases List.mem_cons.mp hm with rfl | hm
      · exact plain_word hn
      · obtain ⟨u, hu, rfl⟩ := List.mem_map.mp hm
        have := Tm.kids_dep hu
        exact plain_tm hss n u (by omega) (Tm.kids_ok hu ho)
def PrtS (k : Nat) (f : Sem1) : Prop := ∀ (ss ns : List Str) (top : Int) (t : Tm) (left : Nat), t.dep ≤ k → t.dep ≤ left → left ≤ 50 → (∀ s ∈ ss, NameOk s) → t.ok ss → Gv (f [.val (talkD ss ns top), .val t.d, .val (.int left)]) fun q => q = (.val (.int t.parts), [.non, .non, .non])
theorem prtS0 (f : Sem1) : PrtS 0 f := fun _ _ _ t _ h => absurd t.dep_pos (by omega)
theorem isIn0 : ∀ ns : List Nat, (∀ n ∈ ns, 1 ≤ n) → isIn (.int 0) ((ns.map Int.ofNat).map D.int) = false
  | [], _ => rfl
  | n :: ns, h => by
    show (deq (.int n) (.int 0) || isIn (.int 0) ((ns.map Int.ofNat).map D.int)) = false
    rw [isIn0 ns fun x hx => h x (List.mem_cons_of_mem _ hx), deq]
    have := h n List.mem_cons_self
    have : ((n : Int) == 0) = false := by simp; omega
    rw [this]
    rfl
theorem sum_ofNat : ∀ ns : List Nat, (ns.map Int.ofNat).sum = ((ns.sum : Nat) : Int)
  | [] => rfl
  | n :: ns => by rw [List.map_cons, List.sum_cons, sum_ofNat ns, List.sum_cons]; rfl
theorem prtS {k : Nat} {C : Mi.Ctx} (hkd : C.kd = kdD) (hS : SetsS (C.ft 38)) (hP : PrtS k (C.ft 4)) : PrtS (k + 1) (runD C t4) := by
  intro ss ns top t left hk hl hl50 hss hok
  have hpos := t.dep_pos
  refine gd_run rfl ?_
  show Gv (exs C b4 [.val (talkD ss ns top), .val t.d, .val (.int left), .un, .un, .un, .un]) _
  unfold b4
  repeat walk_at "w"
  refine if_e (fun h => by omega) (fun _ => ?_)
  cases hn : t.isNm with
  | true =>
    cases t with
    | nm s =>
      have hm : s ∈ ss := hok
      repeat walk_at "w"
      refine ins_is ?_
      repeat walk_at "w"
      refine callT_gv rfl rfl (gv_mono (hS ss ns top) ?_)
      rintro _ rfl
      repeat walk_at "w"
      refine gl_inT ?_
      rw [show ss.contains s = true from by simpa using hm]
      repeat walk_at "w"
      exact gv_is rfl rfl
    | _ => cases hn
  | false =>
    have hpl := plain_tm hss 60 t (by omega) hok
    rw [Tm.d_tup hn] at hpl ⊢
    repeat walk_at "w"
    refine gl_eqP hpl rfl ?_
    rw [show deq (.tup (.str t.word :: t.kids.map Tm.d)) (.tup []) = false from rfl]
    repeat walk_at "w"
    have hkl := t.kids_le
    refine gl_star (by simp; omega) (by simp) (by simp) ?_
    repeat walk_at "w"
    refine gv_kget ?_
    rw [hkd]
    repeat walk_at "w"
    refine ⟨_, rfl, ?_⟩
    rw [kid_get hn]
    repeat walk_at "w"
    rw [len_map]
    refine if_n (fun e => absurd rfl e) (fun _ => ?_)
    repeat walk_at "w"
    refine len_lst (by omega) ?_
    refine cpr_map Tm.d (fun u => .int (u.parts : Nat)) (fun u hu => ?_) ?_
    · have hud := Tm.kids_dep hu
      repeat walk_at "w"
      rw [show ((left : Int) - 1) = ((left - 1 : Nat) : Int) by omega]
      refine callT_gv rfl rfl (gv_mono (hP ss ns top u (left - 1) (by omega) (by omega) (by omega) hss (Tm.kids_ok hu hok)) ?_)
      rintro _ rfl
      repeat walk_at "w"
    have e1 : (t.kids.map fun u => D.int (u.parts : Nat)) = ((t.kids.map Tm.parts).map Int.ofNat).map D.int := by rw [List.map_map, List.map_map]; rfl
    rw [e1]
    repeat walk_at "w"
    refine gv_is (a := false) (by
      show (if flat (.int 0) && flats _ then some (isIn (.int 0) _) else none) = _
      rw [flats_ints, isIn0 _ fun n h => by obtain ⟨u, _, rfl⟩ := List.mem_map.mp h; exact u.parts_pos]
      rfl) ?_
    repeat walk_at "w"
    refine gv_is rfl ?_
    rw [sum_ofNat, t.parts_sum]
    rfl
def IstS (f : Sem1) : Prop := ∀ (ss ns : List Str) (top : Int) (t : Tm), t.dep ≤ 12 → (∀ s ∈ ss, NameOk s) → t.ok ss → Gv (f [.val (talkD ss ns top), .val t.d]) fun q => q = (.val (.bl (decide (t.parts ≤ 100))), [.non, .non])
theorem istS {C : Mi.Ctx} (hg : C.gl = glD) (hP : PrtS 12 (C.ft 4)) : IstS (runD C t5) := by
  intro ss ns top t hd hss hok
  refine gd_run rfl ?_
  show Gv (exs C b5 [.val (talkD ss ns top), .val t.d]) _
  unfold b5
  have hpos := t.parts_pos
  repeat walk_at "w"
  refine gv_chn ?_
  repeat walk_at "w"
  refine gv_glb ?_
  rw [hg]
  repeat walk_at "w"
  refine callT_gv rfl rfl (gv_mono (hP ss ns top t 12 hd hd (by decide) hss hok) ?_)
  rintro _ rfl
  repeat walk_at "w"
  refine if_d (fun _ => ?_) (fun h => by omega)
  refine gv_glb ?_
  rw [hg]
  repeat walk_at "w"
  refine gv_is rfl ?_
  have e : decide ((t.parts : Int) ≤ 100) = decide (t.parts ≤ 100) := decide_eq_decide.mpr (by omega)
  rw [e]
  rfl

end Lk12

namespace Lk12
open Mi PySem L2
local macro_rules | `(tactic| walk_at "s") => `(tactic| (
  first
  | (with_reducible refine gs_cons ?_)
  | (with_reducible refine gs_asg ?_)
  | (with_reducible refine gs_ret ?_)
  | (with_reducible refine gs_exp ?_)
  | (with_reducible refine gs_setx ?_)
  | (with_reducible refine gs_nil ?_)
  | (with_reducible refine gv_con ?_)
  | ((with_reducible apply gv_var); exact rfl)
  | (with_reducible refine gv_bin ?_)
  | (with_reducible refine gv_cmp ?_)
  | (with_reducible refine gt_cmp ?_)
  | (with_reducible refine gv_idx ?_)
  | (with_reducible refine gv_bi ?_)
  | (with_reducible refine gt_bi ?_)
  | (with_reducible refine gv_cal ?_)
  | (with_reducible refine gv_tup ?_)
  | (with_reducible refine gv_lst ?_)
  | (with_reducible refine gv_slc ?_)
  | (with_reducible refine gv_not ?_)
  | (with_reducible refine gt_not ?_)
  | (with_reducible refine gf_nil ?_)
  | (with_reducible refine gf_cons ?_)
  | (with_reducible refine ga_nil ?_)
  | (with_reducible refine ga_cons ?_)
  | (with_reducible refine go_non ?_)
  | ((with_reducible apply gl_look); exact rfl)
  | ((with_reducible apply gl_frz); exact rfl)
  | (with_reducible refine gl_add ?_)
  | (with_reducible refine gl_sub ?_)
  | (with_reducible refine gl_lt ?_)
  | (with_reducible refine gl_le ?_)
  | (with_reducible refine gl_gt ?_)
  | (with_reducible refine gl_ge ?_)
  | (with_reducible refine gl_eq ?_)
  | (with_reducible refine gl_ne ?_)
  | (with_reducible refine gs_ife ?_)
  | (with_reducible refine gv_ite ?_)
  | ((with_reducible apply gl_rest); exact rfl)
  | ((with_reducible apply gl_put); exact rfl)
  | ((with_reducible apply gl_acc); exact rfl)
  | ((with_reducible apply gl_map); exact rfl)
  | ((with_reducible apply gl_tru); exact rfl)
  try dsimp only [List.set_cons_succ, List.set_cons_zero]))
local macro_rules | `(tactic| walk_at "w") => `(tactic| (
  first
  | (with_reducible refine gs_cons ?_)
  | (with_reducible refine gs_asg ?_)
  | (with_reducible refine gs_ret ?_)
  | (with_reducible refine gs_exp ?_)
  | (with_reducible refine gs_setx ?_)
  | (with_reducible refine gs_nil ?_)
  | (with_reducible refine gv_con ?_)
  | ((with_reducible apply gv_var); exact rfl)
  | ((with_reducible apply gt_var); exact rfl)
  | (with_reducible refine gv_bin ?_)
  | (with_reducible refine gv_cmp ?_)
  | (with_reducible refine gt_cmp ?_)
  | (with_reducible refine gv_idx ?_)
  | (with_reducible refine gv_bi ?_)
  | (with_reducible refine gt_bi ?_)
  | (with_reducible refine gv_isi1 ?_)
  | (with_reducible refine gt_isi1 ?_)
  | (with_reducible refine gv_cal ?_)
  | (with_reducible refine gv_fld ?_)
  | ((with_reducible apply gl_fld); exact rfl)
  | (with_reducible refine gv_mcl ?_)
  | (with_reducible refine gt_mcl ?_)
  | (with_reducible refine ins_is ?_)
  | (with_reducible refine gv_mk ?_)
  | (with_reducible refine gt_cal ?_)
  | (with_reducible refine gv_tup ?_)
  | (with_reducible refine gv_lst ?_)
  | (with_reducible refine gv_slc ?_)
  | (with_reducible refine gv_slx ?_)
  | (with_reducible refine gv_not ?_)
  | (with_reducible refine gt_not ?_)
  | (with_reducible refine gv_neg ?_)
  | (with_reducible refine gv_and ?_)
  | (with_reducible refine gv_or ?_)
  | (with_reducible refine gt_and ?_)
  | (with_reducible refine gt_or ?_)
  | (with_reducible refine gv_emp ?_)
  | (with_reducible refine gv_cpr ?_)
  | (with_reducible refine gs_for ?_)
  | (with_reducible refine gi_seq ?_)
  | (with_reducible refine gi_rng1 ?_)
  | (with_reducible refine gi_zip ?_)
  | (with_reducible refine gi_enu ?_)
  | (with_reducible refine gi_rev ?_)
  | (with_reducible refine gs_augx ?_)
  | (with_reducible refine gs_par ?_)
  | ((with_reducible apply gs_aug); exact rfl)
  | (with_reducible refine gl_aadd ?_)
  | (with_reducible refine gl_asub ?_)
  | (with_reducible refine gc_non ?_)
  | (with_reducible refine gc_som ?_)
  | (with_reducible refine turnK_gv ?_)
  | (with_reducible refine turnL_gv ?_)
  | (with_reducible refine gf_nil ?_)
  | (with_reducible refine gf_cons ?_)
  | (with_reducible refine ga_nil ?_)
  | (with_reducible refine ga_cons ?_)
  | (with_reducible refine go_non ?_)
  | (with_reducible refine go_som ?_)
  | (with_reducible refine ex_int ?_)
  | (with_reducible refine ex_bl ?_)
  | (with_reducible refine it_ ?_)
  | (with_reducible refine if_ ?_)
  | (with_reducible refine nit_ ?_)
  | (with_reducible refine nif_ ?_)
  | ((with_reducible apply gl_look); exact rfl)
  | ((with_reducible apply gl_frz); exact rfl)
  | (with_reducible refine gl_add ?_)
  | (with_reducible refine gl_sub ?_)
  | (with_reducible refine gl_lt ?_)
  | (with_reducible refine gl_le ?_)
  | (with_reducible refine gl_gt ?_)
  | (with_reducible refine gl_ge ?_)
  | (with_reducible refine gl_eq ?_)
  | (with_reducible refine gl_ne ?_)
  | (with_reducible refine gl_eqs ?_)
  | (with_reducible refine gl_nes ?_)
  | (with_reducible refine gl_eqb ?_)
  | (with_reducible refine gl_neb ?_)
  | (with_reducible refine gl_mul (mulOk_s (small60 (by omega)) (small60 (by omega))) ?_)
  | ((with_reducible apply gl_pow); exact ⟨by decide, .inl ⟨by decide, by decide⟩⟩)
  | (with_reducible refine gl_mod (by omega) ?_)
  | (with_reducible refine gl_div (divOk_s (small60 (by omega)) (by omega)) ?_)
  | (with_reducible refine gl_len ?_)
  | (with_reducible refine gl_lenT ?_)
  | (with_reducible refine gl_abs ?_)
  | (with_reducible refine gs_whl ?_)
  | (with_reducible refine gl_sum ?_)
  | (with_reducible refine gl_sum2 ?_)
  | (with_reducible refine gl_all ?_)
  | (with_reducible refine gl_any ?_)
  | (with_reducible refine gs_ife ?_)
  | (with_reducible refine gv_ite ?_)
  | ((with_reducible apply gl_rest); exact rfl)
  | ((with_reducible apply gl_put); exact rfl)
  | ((with_reducible apply gl_acc); exact rfl)
  | (with_reducible refine gl_map1 rfl ?_)
  | (with_reducible refine gl_map2 rfl rfl ?_)
  | ((with_reducible apply gl_map); exact rfl)
  | ((with_reducible apply gl_tru); exact rfl)
  | ((with_reducible apply gl_walk); exact rfl)
  | ((with_reducible apply gl_items); exact rfl)
  | ((with_reducible apply gl_ty); exact rfl)
  | (with_reducible refine gl_slc1T ?_)
  | (with_reducible refine gl_slc1L ?_)
  | (with_reducible refine gl_slcTa ?_)
  | (with_reducible refine gl_slcTb ?_)
  | (with_reducible refine gl_slcLa ?_)
  | (with_reducible refine gl_slcLb ?_)
  | ((with_reducible apply gl_idxt); exact rfl)
  | ((with_reducible apply gl_idxl); exact rfl)
  | ((with_reducible apply gl_bi); exact rfl)
  | ((with_reducible apply gl_cop); exact rfl)
  | dsimp only [List.set_cons_succ, List.set_cons_zero, backs, Out.en, Rt.r, lend, back, restG, wipeG, Option.toList, List.nil_append, List.append_nil, List.cons_append, List.getElem?_cons_zero, List.getElem?_cons_succ, OD.d, Mi.isNon, List.map]
  try dsimp only [List.set_cons_succ, List.set_cons_zero, backs, Out.en, Rt.r, lend, back, restG, wipeG, Option.toList, List.nil_append, List.append_nil, List.cons_append, List.getElem?_cons_zero, List.getElem?_cons_succ, OD.d, Mi.isNon, List.map]))
set_option hygiene false in
local macro_rules | `(tactic| walk_at "take") => `(tactic| (
  refine take_c rfl rfl (by assumption) (by assumption) (by omega) (small60 (by omega)) (by omega) ?_
  intro r o ra rb hp
  dsimp only [List.set_cons_succ, List.set_cons_zero, backs, Out.en, Rt.r, lend, back, restG, wipeG, Option.toList, List.nil_append, List.append_nil, List.cons_append, List.getElem?_cons_zero, List.getElem?_cons_succ, OD.d, Mi.isNon, List.map]))

/-! ### the law's own count of parts -/
local macro_rules | `(tactic| walk_at "e") => `(tactic| (first
  | walk_at "w"
  | (refine if_b (fun h => absurd h (by decide)) (fun _ => ?_))
  | (refine if_b (fun _ => ?_) (fun h => absurd h (by decide)))
  | (refine if_e (fun h => False.elim ?no) (fun _ => ?_); (case no => simp at h))
  | (refine if_e (fun _ => ?_) (fun h => False.elim ?no); (case no => simp at h))))
def LprS (k : Nat) (f : Sem1) : Prop := ∀ (ss : List Str) (t : Tm) (left : Nat), t.dep ≤ k → t.dep ≤ left → left ≤ 50 → t.ok ss → Gv (f [.val (.tup (ss.map D.str)), .val t.d, .val (.int left)]) fun q => q = (.val (.int t.parts), [.non, .non, .non])
theorem lprS0 (f : Sem1) : LprS 0 f := fun _ t _ h => absurd t.dep_pos (by omega)
theorem parts_b : ∀ t : Tm, t.parts < 2 ^ t.dep
  | .nm _ => by show 1 < 2 ^ 1; decide
  | .all => by show 1 < 2 ^ 1; decide
  | .none => by show 1 < 2 ^ 1; decide
  | .not t => by
    have := parts_b t
    show t.parts + 1 < 2 ^ (t.dep + 1)
    rw [Nat.pow_succ]
    omega
  | .and a b => by
    have h1 := parts_b a
    have h2 := parts_b b
    have g1 : 2 ^ a.dep ≤ 2 ^ max a.dep b.dep := Nat.pow_le_pow_right (by decide) (by omega)
    have g2 : 2 ^ b.dep ≤ 2 ^ max a.dep b.dep := Nat.pow_le_pow_right (by decide) (by omega)
    show a.parts + b.parts + 1 < 2 ^ (max a.dep b.dep + 1)
    rw [Nat.pow_succ]
    omega
  | .or a b => by
    have h1 := parts_b a
    have h2 := parts_b b
    have g1 : 2 ^ a.dep ≤ 2 ^ max a.dep b.dep := Nat.pow_le_pow_right (by decide) (by omega)
    have g2 : 2 ^ b.dep ≤ 2 ^ max a.dep b.dep := Nat.pow_le_pow_right (by decide) (by omega)
    show a.parts + b.parts + 1 < 2 ^ (max a.dep b.dep + 1)
    rw [Nat.pow_succ]
    omega
  | .but a b => by
    have h1 := parts_b a
    have h2 := parts_b b
    have g1 : 2 ^ a.dep ≤ 2 ^ max a.dep b.dep := Nat.pow_le_pow_right (by decide) (by omega)
    have g2 : 2 ^ b.dep ≤ 2 ^ max a.dep b.dep := Nat.pow_le_pow_right (by decide) (by omega)
    show a.parts + b.parts + 1 < 2 ^ (max a.dep b.dep + 1)
    rw [Nat.pow_succ]
    omega
theorem parts_60 {t : Tm} (h : t.dep ≤ 50) : (t.parts : Int) < 10 ^ 16 := by
  have h1 := parts_b t
  have h2 : 2 ^ t.dep ≤ 2 ^ 50 := Nat.pow_le_pow_right (by decide) h
  have h3 : (2 : Nat) ^ 50 = 1125899906842624 := by decide
  generalize (2 : Nat) ^ t.dep = x at *
  omega
theorem lprS {k : Nat} {C : Mi.Ctx} (hP : LprS k (C.ft 28)) : LprS (k + 1) (runD C t28) := by
  intro ss t left hk hl hl50 hok
  have hpos := t.dep_pos
  refine gd_run rfl ?_
  show Gv (exs C b28 [.val (.tup (ss.map D.str)), .val t.d, .val (.int left), .un, .un]) _
  have two : ∀ a b : Tm, max a.dep b.dep + 1 ≤ k + 1 → max a.dep b.dep + 1 ≤ left → a.ok ss → b.ok ss → ∀ w : Str, (w = "and" ∨ w = "or" ∨ w = "but") → Gv (exs C b28 [.val (.tup (ss.map D.str)), .val (.tup [.str w, a.d, b.d]), .val (.int left), .un, .un]) fun p => p = (.rt (.val (.int ((a.parts + b.parts + 1 : Nat) : Int))), [.val (.tup (ss.map D.str)), .val (.tup [.str w, a.d, b.d]), .val (.int left), .val (.int a.parts), .val (.int b.parts)]) := by
    intro a b h1 h2 oa ob w hw
    have pa := parts_60 (t := a) (by omega)
    have pb := parts_60 (t := b) (by omega)
    have qa := a.parts_pos
    have qb := b.parts_pos
    unfold b28
    repeat walk_at "w"
    refine if_e (fun h => by omega) (fun _ => ?_)
    rcases hw with rfl | rfl | rfl
    all_goals
      repeat walk_at "e"
      rw [show ((left : Int) - 1) = ((left - 1 : Nat) : Int) by omega]
      refine callT_gv rfl rfl (gv_mono (hP ss a (left - 1) (by omega) (by omega) (by omega) oa) ?_)
      rintro _ rfl
      repeat walk_at "e"
      rw [show ((left : Int) - 1) = ((left - 1 : Nat) : Int) by omega]
      refine callT_gv rfl rfl (gv_mono (hP ss b (left - 1) (by omega) (by omega) (by omega) ob) ?_)
      rintro _ rfl
      repeat walk_at "e"
      rw [decide_eq_true (show (0 : Int) < a.parts by omega)]
      repeat walk_at "e"
      rw [decide_eq_true (show (0 : Int) < b.parts by omega)]
      repeat walk_at "e"
      refine gl_mul (mulOk_s (small60 (by omega)) (small60 (by decide))) ?_
      repeat walk_at "e"
      rw [show ((a.parts : Int) + b.parts + 1) * b2i true = ((a.parts + b.parts + 1 : Nat) : Int) by show _ * (1 : Int) = _; omega]
  cases t with
  | nm s =>
    have hm : s ∈ ss := hok
    unfold b28
    repeat walk_at "w"
    refine if_e (fun h => by omega) (fun _ => ?_)
    repeat walk_at "w"
    refine gl_inT ?_
    rw [show ss.contains s = true from by simpa using hm]
    repeat walk_at "w"
    exact gv_is rfl rfl
  | all =>
    dsimp only [Tm.d]
    unfold b28
    repeat walk_at "w"
    refine if_e (fun h => by omega) (fun _ => ?_)
    repeat walk_at "e"
    exact gv_is rfl rfl
  | none =>
    dsimp only [Tm.d]
    unfold b28
    repeat walk_at "w"
    refine if_e (fun h => by omega) (fun _ => ?_)
    repeat walk_at "e"
    exact gv_is rfl rfl
  | not t =>
    have h1 : t.dep + 1 ≤ k + 1 := hk
    have h2 : t.dep + 1 ≤ left := hl
    have pa := parts_60 (t := t) (by omega)
    have qa := t.parts_pos
    dsimp only [Tm.d]
    unfold b28
    repeat walk_at "w"
    refine if_e (fun h => by omega) (fun _ => ?_)
    repeat walk_at "e"
    rw [show ((left : Int) - 1) = ((left - 1 : Nat) : Int) by omega]
    refine callT_gv rfl rfl (gv_mono (hP ss t (left - 1) (by omega) (by omega) (by omega) hok) ?_)
    rintro _ rfl
    repeat walk_at "e"
    rw [decide_eq_true (show (0 : Int) < t.parts by omega)]
    repeat walk_at "e"
    refine gl_mul (mulOk_s (small60 (by omega)) (small60 (by decide))) ?_
    repeat walk_at "e"
    rw [show ((t.parts : Int) + 1) * b2i true = ((t.parts + 1 : Nat) : Int) by show _ * (1 : Int) = _; omega]
    exact gv_is rfl rfl
  | and a b =>
    refine gv_mono (two a b hk hl hok.1 hok.2 "and" (.inl rfl)) ?_
    rintro _ rfl
    exact gv_is rfl rfl
  | or a b =>
    refine gv_mono (two a b hk hl hok.1 hok.2 "or" (.inr (.inl rfl))) ?_
    rintro _ rfl
    exact gv_is rfl rfl
  | but a b =>
    refine gv_mono (two a b hk hl hok.1 hok.2 "but" (.inr (.inr rfl))) ?_
    rintro _ rfl
    exact gv_is rfl rfl

end Lk12

namespace Lk12
open Mi PySem L2
local macro_rules | `(tactic| walk_at "s") => `(tactic| (
  first
  | (with_reducible refine gs_cons ?_)
  | (with_reducible refine gs_asg ?_)
  | (with_reducible refine gs_ret ?_)
  | (with_reducible refine gs_exp ?_)
  | (with_reducible refine gs_setx ?_)
  | (with_reducible refine gs_nil ?_)
  | (with_reducible refine gv_con ?_)
  | ((with_reducible apply gv_var); exact rfl)
  | (with_reducible refine gv_bin ?_)
  | (with_reducible refine gv_cmp ?_)
  | (with_reducible refine gt_cmp ?_)
  | (with_reducible refine gv_idx ?_)
  | (with_reducible refine gv_bi ?_)
  | (with_reducible refine gt_bi ?_)
  | (with_reducible refine gv_cal ?_)
  | (with_reducible refine gv_tup ?_)
  | (with_reducible refine gv_lst ?_)
  | (with_reducible refine gv_slc ?_)
  | (with_reducible refine gv_not ?_)
  | (with_reducible refine gt_not ?_)
  | (with_reducible refine gf_nil ?_)
  | (with_reducible refine gf_cons ?_)
  | (with_reducible refine ga_nil ?_)
  | (with_reducible refine ga_cons ?_)
  | (with_reducible refine go_non ?_)
  | ((with_reducible apply gl_look); exact rfl)
  | ((with_reducible apply gl_frz); exact rfl)
  | (with_reducible refine gl_add ?_)
  | (with_reducible refine gl_sub ?_)
  | (with_reducible refine gl_lt ?_)
  | (with_reducible refine gl_le ?_)
  | (with_reducible refine gl_gt ?_)
  | (with_reducible refine gl_ge ?_)
  | (with_reducible refine gl_eq ?_)
  | (with_reducible refine gl_ne ?_)
  | (with_reducible refine gs_ife ?_)
  | (with_reducible refine gv_ite ?_)
  | ((with_reducible apply gl_rest); exact rfl)
  | ((with_reducible apply gl_put); exact rfl)
  | ((with_reducible apply gl_acc); exact rfl)
  | ((with_reducible apply gl_map); exact rfl)
  | ((with_reducible apply gl_tru); exact rfl)
  try dsimp only [List.set_cons_succ, List.set_cons_zero]))
local macro_rules | `(tactic| walk_at "w") => `(tactic| (
  first
  | (with_reducible refine gs_cons ?_)
  | (with_reducible refine gs_asg ?_)
  | (with_reducible refine gs_ret ?_)
  | (with_reducible refine gs_exp ?_)
  | (with_reducible refine gs_setx ?_)
  | (with_reducible refine gs_nil ?_)
  | (with_reducible refine gv_con ?_)
  | ((with_reducible apply gv_var); exact rfl)
  | ((with_reducible apply gt_var); exact rfl)
  | (with_reducible refine gv_bin ?_)
  | (with_reducible refine gv_cmp ?_)
  | (with_reducible refine gt_cmp ?_)
  | (with_reducible refine gv_idx ?_)
  | (with_reducible refine gv_bi ?_)
  | (with_reducible refine gt_bi ?_)
  | (with_reducible refine gv_isi1 ?_)
  | (with_reducible refine gt_isi1 ?_)
  | (with_reducible refine gv_cal ?_)
  | (with_reducible refine gv_fld ?_)
  | ((with_reducible apply gl_fld); exact rfl)
  | (with_reducible refine gv_mcl ?_)
  | (with_reducible refine gt_mcl ?_)
  | (with_reducible refine ins_is ?_)
  | (with_reducible refine gv_mk ?_)
  | (with_reducible refine gt_cal ?_)
  | (with_reducible refine gv_tup ?_)
  | (with_reducible refine gv_lst ?_)
  | (with_reducible refine gv_slc ?_)
  | (with_reducible refine gv_slx ?_)
  | (with_reducible refine gv_not ?_)
  | (with_reducible refine gt_not ?_)
  | (with_reducible refine gv_neg ?_)
  | (with_reducible refine gv_and ?_)
  | (with_reducible refine gv_or ?_)
  | (with_reducible refine gt_and ?_)
  | (with_reducible refine gt_or ?_)
  | (with_reducible refine gv_emp ?_)
  | (with_reducible refine gv_cpr ?_)
  | (with_reducible refine gs_for ?_)
  | (with_reducible refine gi_seq ?_)
  | (with_reducible refine gi_rng1 ?_)
  | (with_reducible refine gi_zip ?_)
  | (with_reducible refine gi_enu ?_)
  | (with_reducible refine gi_rev ?_)
  | (with_reducible refine gs_augx ?_)
  | (with_reducible refine gs_par ?_)
  | ((with_reducible apply gs_aug); exact rfl)
  | (with_reducible refine gl_aadd ?_)
  | (with_reducible refine gl_asub ?_)
  | (with_reducible refine gc_non ?_)
  | (with_reducible refine gc_som ?_)
  | (with_reducible refine turnK_gv ?_)
  | (with_reducible refine turnL_gv ?_)
  | (with_reducible refine gf_nil ?_)
  | (with_reducible refine gf_cons ?_)
  | (with_reducible refine ga_nil ?_)
  | (with_reducible refine ga_cons ?_)
  | (with_reducible refine go_non ?_)
  | (with_reducible refine go_som ?_)
  | (with_reducible refine ex_int ?_)
  | (with_reducible refine ex_bl ?_)
  | (with_reducible refine it_ ?_)
  | (with_reducible refine if_ ?_)
  | (with_reducible refine nit_ ?_)
  | (with_reducible refine nif_ ?_)
  | ((with_reducible apply gl_look); exact rfl)
  | ((with_reducible apply gl_frz); exact rfl)
  | (with_reducible refine gl_add ?_)
  | (with_reducible refine gl_sub ?_)
  | (with_reducible refine gl_lt ?_)
  | (with_reducible refine gl_le ?_)
  | (with_reducible refine gl_gt ?_)
  | (with_reducible refine gl_ge ?_)
  | (with_reducible refine gl_eq ?_)
  | (with_reducible refine gl_ne ?_)
  | (with_reducible refine gl_eqs ?_)
  | (with_reducible refine gl_nes ?_)
  | (with_reducible refine gl_eqb ?_)
  | (with_reducible refine gl_neb ?_)
  | (with_reducible refine gl_mul (mulOk_s (small60 (by omega)) (small60 (by omega))) ?_)
  | ((with_reducible apply gl_pow); exact ⟨by decide, .inl ⟨by decide, by decide⟩⟩)
  | (with_reducible refine gl_mod (by omega) ?_)
  | (with_reducible refine gl_div (divOk_s (small60 (by omega)) (by omega)) ?_)
  | (with_reducible refine gl_len ?_)
  | (with_reducible refine gl_lenT ?_)
  | (with_reducible refine gl_abs ?_)
  | (with_reducible refine gs_whl ?_)
  | (with_reducible refine gl_sum ?_)
  | (with_reducible refine gl_sum2 ?_)
  | (with_reducible refine gl_all ?_)
  | (with_reducible refine gl_any ?_)
  | (with_reducible refine gs_ife ?_)
  | (with_reducible refine gv_ite ?_)
  | ((with_reducible apply gl_rest); exact rfl)
  | ((with_reducible apply gl_put); exact rfl)
  | ((with_reducible apply gl_acc); exact rfl)
  | (with_reducible refine gl_map1 rfl ?_)
  | (with_reducible refine gl_map2 rfl rfl ?_)
  | ((with_reducible apply gl_map); exact rfl)
  | ((with_reducible apply gl_tru); exact rfl)
  | ((with_reducible apply gl_walk); exact rfl)
  | ((with_reducible apply gl_items); exact rfl)
  | ((with_reducible apply gl_ty); exact rfl)
  | (with_reducible refine gl_slc1T ?_)
  | (with_reducible refine gl_slc1L ?_)
  | (with_reducible refine gl_slcTa ?_)
  | (with_reducible refine gl_slcTb ?_)
  | (with_reducible refine gl_slcLa ?_)
  | (with_reducible refine gl_slcLb ?_)
  | ((with_reducible apply gl_idxt); exact rfl)
  | ((with_reducible apply gl_idxl); exact rfl)
  | ((with_reducible apply gl_bi); exact rfl)
  | ((with_reducible apply gl_cop); exact rfl)
  | dsimp only [List.set_cons_succ, List.set_cons_zero, backs, Out.en, Rt.r, lend, back, restG, wipeG, Option.toList, List.nil_append, List.append_nil, List.cons_append, List.getElem?_cons_zero, List.getElem?_cons_succ, OD.d, Mi.isNon, List.map]
  try dsimp only [List.set_cons_succ, List.set_cons_zero, backs, Out.en, Rt.r, lend, back, restG, wipeG, Option.toList, List.nil_append, List.append_nil, List.cons_append, List.getElem?_cons_zero, List.getElem?_cons_succ, OD.d, Mi.isNon, List.map]))
set_option hygiene false in
local macro_rules | `(tactic| walk_at "take") => `(tactic| (
  refine take_c rfl rfl (by assumption) (by assumption) (by omega) (small60 (by omega)) (by omega) ?_
  intro r o ra rb hp
  dsimp only [List.set_cons_succ, List.set_cons_zero, backs, Out.en, Rt.r, lend, back, restG, wipeG, Option.toList, List.nil_append, List.append_nil, List.cons_append, List.getElem?_cons_zero, List.getElem?_cons_succ, OD.d, Mi.isNon, List.map]))

/-! ### sums: what they are as data, their rows -/
inductive Ad where
  | lot (c : Int) | num (c : Int) (s : Str) | size (c : Int) (t : Tm)
def Ad.d : Ad → D
  | .lot c => .tup [.str "lot", .int c]
  | .num c s => .tup [.str "num", .int c, .str s]
  | .size c t => .tup [.str "size", .int c, t.d]
def Ad.ok (ss nn : List Str) : Ad → Prop
  | .lot _ => True
  | .num _ s => s ∈ nn
  | .size _ t => t.ok ss ∧ t.dep ≤ 12
def Ad.at (ss nn : List Str) (i : Nat) : Ad → Int
  | .lot c => if i = 0 then c else 0
  | .num c s => if i = 1 + 2 ^ ss.length + (nn.findIdx? (fun z => z == s)).getD 0 then c else 0
  | .size c t => if 1 ≤ i ∧ i ≤ 2 ^ ss.length ∧ t.ev (lieV ss (i - 1)) = true then c else 0
def rowF (W : Nat) (f : Nat → Int) : List Int := (List.range W).map f
def rowV (ss nn : List Str) (as : List Ad) : List Int := rowF (1 + 2 ^ ss.length + nn.length) fun i => (as.map (Ad.at ss nn i)).sum
theorem rowF_len {W : Nat} {f : Nat → Int} : (rowF W f).length = W := by simp [rowF]
theorem rowF_get {W p : Nat} {f : Nat → Int} (h : p < W) : (rowF W f)[p]? = some (f p) := by simp [rowF, h]
theorem rowF_set {W p : Nat} {f : Nat → Int} {c : Int} (h : p < W) : (rowF W f).set p (f p + c) = rowF W fun i => f i + if i = p then c else 0 := by
  refine List.ext_getElem (by simp [rowF]) fun i h1 h2 => ?_
  rw [List.getElem_set]
  simp only [rowF, List.getElem_map, List.getElem_range]
  by_cases e : p = i
  · subst e; simp
  · rw [if_neg e, if_neg fun z => e z.symm]; simp
theorem rowF_ext {W : Nat} {f g : Nat → Int} (h : ∀ i, i < W → f i = g i) : rowF W f = rowF W g := by
  refine List.map_congr_left fun i hi => h i (by simpa using hi)
theorem rowV_snoc {ss nn : List Str} {as : List Ad} {a : Ad} : rowV ss nn (as ++ [a]) = rowF (1 + 2 ^ ss.length + nn.length) fun i => (as.map (Ad.at ss nn i)).sum + a.at ss nn i := by
  unfold rowV
  refine rowF_ext fun i _ => ?_
  rw [List.map_append, List.sum_append]
  simp
def PlcS (f : Sem1) : Prop := ∀ (ss nn : List Str) (top : Int) (s : Str), ss.length ≤ 3 → s ∈ nn → Gv (f [.val (talkD ss nn top), .val (.str s)]) fun q => q = (.val (.int ((2 ^ ss.length + (nn.findIdx? (fun z => z == s)).getD 0 : Nat) : Int)), [.non, .non])
theorem plcS {C : Mi.Ctx} (hR : RegS (C.ft 34)) : PlcS (runD C t37) := by
  intro ss nn top s hs hm
  refine gd_run rfl ?_
  show Gv (exs C b37 [.val (talkD ss nn top), .val (.str s)]) _
  unfold b37
  repeat walk_at "w"
  refine gl_notinT ?_
  rw [show nn.contains s = true from by simpa using hm]
  repeat walk_at "w"
  refine ins_is ?_
  repeat walk_at "w"
  refine callT_gv rfl rfl (gv_mono (hR ss nn top (by omega)) ?_)
  rintro _ rfl
  repeat walk_at "w"
  refine gv_mthG ?_
  repeat walk_at "w"
  refine ⟨rfl, ?_⟩
  repeat walk_at "w"
  refine gl_tindex hm fun k hk => ?_
  repeat walk_at "w"
  refine gv_is rfl ?_
  rw [hk]
  rfl
def LenS (f : Sem1) : Prop := ∀ (ss nn : List Str) (top : Int), ss.length ≤ 3 → nn.length ≤ 3 → Gv (f [.val (talkD ss nn top)]) fun q => q = (.val (.int ((2 ^ ss.length + nn.length : Nat) : Int)), [.non])
theorem lenS {C : Mi.Ctx} (hR : RegS (C.ft 34)) : LenS (runD C t36) := by
  intro ss nn top hs hn
  refine gd_run rfl ?_
  show Gv (exs C b36 [.val (talkD ss nn top)]) _
  unfold b36
  have hm8 := pw3 hs
  repeat walk_at "w"
  refine ins_is ?_
  repeat walk_at "w"
  refine callT_gv rfl rfl (gv_mono (hR ss nn top (by omega)) ?_)
  rintro _ rfl
  generalize hm : 2 ^ ss.length = m at *
  repeat walk_at "w"
  refine gl_rep (by omega) ?_
  repeat walk_at "w"
  refine gl_catL (by simp; omega) ?_
  repeat walk_at "w"
  refine gv_is rfl ?_
  rw [List.length_append, List.length_map, List.length_map, List.length_replicate]
  rfl
def RgsS (f : Sem1) : Prop := ∀ (ss nn : List Str) (top : Int) (t : Tm), ss.length ≤ 3 → t.ok ss → t.dep ≤ 12 → Gv (f [.val (talkD ss nn top), .val t.d]) fun q => q = (.fr (.lst (((List.range (2 ^ ss.length)).filter fun r => t.ev (lieV ss r)).map fun (r : Nat) => D.int (r : Int))), [.non, .non])
theorem rgsS {C : Mi.Ctx} (hR : RegS (C.ft 34)) (hH : HolS 12 (C.ft 6)) : RgsS (runD C t7) := by
  intro ss nn top t hs ho hd
  refine gd_run rfl ?_
  show Gv (exs C b7 [.val (talkD ss nn top), .val t.d, .un]) _
  unfold b7
  have hm8 := pw3 hs
  repeat walk_at "w"
  refine ins_is ?_
  repeat walk_at "w"
  refine callT_gv rfl rfl (gv_mono (hR ss nn top (by omega)) ?_)
  rintro _ rfl
  generalize hm : 2 ^ ss.length = m at *
  repeat walk_at "w"
  refine rng_i (by omega) (by omega) ?_
  refine len_rng (by omega) ?_
  have e : rangeL 0 ((m : Nat) : Int).toNat 1 = (List.range m).map fun (r : Nat) => D.int (r : Int) := by
    unfold rangeL
    rw [Int.toNat_natCast]
    refine List.map_congr_left fun r _ => ?_
    rw [Int.zero_add, Int.mul_one]
  rw [e]
  refine cpr_filter _ (fun (r : Nat) => D.int (r : Int)) (fun r => t.ev (lieV ss r)) (fun r hr => ?_) ?_
  · have hr : r < m := by simpa using hr
    repeat walk_at "w"
    refine callT_gv rfl rfl (gv_mono (hH ss nn top r t hd hs (by rw [hm]; exact hr) ho) ?_)
    rintro _ rfl
    cases t.ev (lieV ss r)
    all_goals
      repeat walk_at "w"
      try rfl
  repeat walk_at "w"
  exact gv_is rfl rfl

theorem gl_lenI {n : Nat} {P : R → Prop} (h : n < 1000000) (p : P (.val (.int (n : Int)))) : Gv (lenI (.val (.int (n : Int)))) P := gv_is (by rw [lenI]; rw [if_pos ⟨by omega, by omega⟩]) p
theorem callF_gv {ft : Nat → Sem1} {f : Nat} {src : List Src} {rs rs' : List R} {Γ Γ2 : G} {is : List In} {P : R × G → Prop} (e1 : pick rs src = some rs') (e2 : toIns Γ rs' = some (is, Γ2)) (h : Gv (ft f is) fun q => P (q.1.r, backs rs' is q.2 Γ2)) : Gv (callT ft f src rs Γ) P := by
  unfold callT
  rw [e1]
  refine gv_bind (gv_some (gv_bind ?_))
  rw [e2]
  exact gv_some (gv_bind (gv_mono h fun q h => gv_some h))
local macro_rules | `(tactic| walk_at "e") => `(tactic| (first
  | walk_at "w"
  | (refine if_b (fun h => absurd h (by decide)) (fun _ => ?_))
  | (refine if_b (fun _ => ?_) (fun h => absurd h (by decide)))))
def RowS (f : Sem1) : Prop := ∀ (ss nn : List Str) (top : Int) (as : List Ad), ss.length ≤ 3 → nn.length ≤ 3 → as.length ≤ 20 → (∀ a ∈ as, a.ok ss nn) → Gv (f [.val (talkD ss nn top), .val (.tup (as.map Ad.d))]) fun q => q = (.val (.tup ((rowV ss nn as).map D.int)), [.non, .non])
theorem find_lt {nn : List Str} {s : Str} (h : s ∈ nn) : (nn.findIdx? (fun z => z == s)).getD 0 < nn.length := by
  have hs : (nn.findIdx? fun z => z == s).isSome = true := by
    rw [List.findIdx?_isSome, List.any_eq_true]
    exact ⟨s, h, by simp⟩
  obtain ⟨k, hk⟩ := Option.isSome_iff_exists.mp hs
  obtain ⟨hl, _⟩ := List.findIdx?_eq_some_iff_getElem.mp hk
  rw [hk]
  exact hl
theorem rowS {C : Mi.Ctx} (hL : LenS (C.fi 36)) (hP : PlcS (C.ft 37)) (hR : RgsS (C.ft 7)) : RowS (runD C t12) := by
  intro ss nn top as hs hn hal hok
  refine gd_run rfl ?_
  show Gv (exs C b12 [.val (talkD ss nn top), .val (.tup (as.map Ad.d)), .un, .un, .un, .un, .un]) _
  unfold b12
  have hm8 := pw3 hs
  repeat walk_at "w"
  refine gv_lno ?_
  repeat walk_at "w"
  refine ins_is ?_
  refine callF_gv rfl rfl (gv_mono (hL ss nn top hs hn) ?_)
  rintro _ rfl
  refine gl_lenI (by generalize 2 ^ ss.length = m at *; omega) ?_
  repeat walk_at "w"
  rw [show (1 + ((2 ^ ss.length + nn.length : Nat) : Int)) = ((1 + 2 ^ ss.length + nn.length : Nat) : Int) by rw [Nat.add_assoc]; rfl]
  refine gl_rep (by generalize 2 ^ ss.length = m at *; omega) ?_
  have e0 : List.replicate (1 + 2 ^ ss.length + nn.length) (0 : Int) = rowV ss nn [] := by
    unfold rowV rowF
    simp only [List.map_nil, List.sum_nil, List.map_const', List.length_range]
  rw [e0]
  repeat walk_at "w"
  refine for_list Ad.d (fun k Γ => ∃ x3 x4 x5 x6, Γ = [.val (talkD ss nn top), .val (.tup (as.map Ad.d)), .own (.lst ((rowV ss nn (as.take k)).map D.int)), x3, x4, x5, x6]) ⟨_, _, _, _, rfl⟩ ?_ ?_
  · rintro k a Γ ha ⟨x3, x4, x5, x6, rfl⟩
    have hao := hok a (List.mem_of_getElem? ha)
    have etk : as.take (k + 1) = as.take k ++ [a] := by rw [List.take_add_one, ha]; rfl
    rw [etk]
    generalize as.take k = bs
    have hmp : 1 ≤ 2 ^ ss.length := Nat.one_le_two_pow
    obtain ⟨f, hf⟩ : ∃ f : Nat → Int, ∀ i, (bs.map (Ad.at ss nn i)).sum = f i := ⟨_, fun _ => rfl⟩
    have hrow : rowV ss nn bs = rowF (1 + 2 ^ ss.length + nn.length) f := rowF_ext fun i _ => hf i
    have hsn : rowV ss nn (bs ++ [a]) = rowF (1 + 2 ^ ss.length + nn.length) fun i => f i + a.at ss nn i := by
      rw [rowV_snoc]
      exact rowF_ext fun i _ => by rw [hf]
    rw [hsn, hrow]
    refine turnL_gv ?_
    cases a with
    | lot c =>
      have e1 : (fun i => f i + (Ad.lot c).at ss nn i) = fun i => f i + if i = 0 then c else 0 := rfl
      rw [e1]
      have hW : 0 < 1 + 2 ^ ss.length + nn.length := by omega
      generalize 1 + 2 ^ ss.length + nn.length = W at *
      refine gl_put rfl ?_
      dsimp only [List.set_cons_succ, List.set_cons_zero]
      repeat walk_at "e"
      refine gl_idxl (at_int (by decide) (show ((rowF W f).map D.int)[(0 : Int).toNat]? = some (.int (f 0)) by rw [List.getElem?_map]; show ((rowF W f)[0]?).map _ = _; rw [rowF_get hW]; rfl)) ?_
      repeat walk_at "e"
      refine ⟨2, _, _, rfl, rfl, (setD_nat (k := 0) (by rw [List.length_map, rowF_len]; exact hW)), ?_⟩
      rw [← List.map_set, rowF_set hW]
      repeat walk_at "e"
      exact ⟨_, _, _, _, rfl⟩
    | num c s =>
      have hfl := find_lt (nn := nn) (s := s) hao
      have e1 : (fun i => f i + (Ad.num c s).at ss nn i) = fun i => f i + if i = 1 + 2 ^ ss.length + (nn.findIdx? (fun z => z == s)).getD 0 then c else 0 := rfl
      rw [e1]
      refine gl_put rfl ?_
      dsimp only [List.set_cons_succ, List.set_cons_zero]
      repeat walk_at "e"
      refine ins_is ?_
      repeat walk_at "e"
      refine callT_gv rfl rfl (gv_mono (hP ss nn top s hs hao) ?_)
      rintro _ rfl
      generalize (nn.findIdx? (fun z => z == s)).getD 0 = q at *
      generalize hm : 2 ^ ss.length = m at *
      repeat walk_at "e"
      rw [show (1 + ((m + q : Nat) : Int)) = ((1 + m + q : Nat) : Int) by omega]
      have hW : 1 + m + q < 1 + m + nn.length := by omega
      refine gl_idxl (at_nat (d := .int (f (1 + m + q))) (by rw [List.getElem?_map, rowF_get hW]; rfl)) ?_
      repeat walk_at "e"
      refine ⟨2, _, _, rfl, rfl, (setD_nat (by rw [List.length_map, rowF_len]; exact hW)), ?_⟩
      rw [← List.map_set, rowF_set hW]
      repeat walk_at "e"
      exact ⟨_, _, _, _, rfl⟩
    | size c t =>
      refine gl_put rfl ?_
      dsimp only [List.set_cons_succ, List.set_cons_zero]
      repeat walk_at "e"
      refine callT_gv rfl rfl (gv_mono (hR ss nn top t hs hao.1 hao.2) ?_)
      rintro _ rfl
      repeat walk_at "e"
      generalize hL : (List.range (2 ^ ss.length)).filter (fun r => t.ev (lieV ss r)) = L
      have hLm : ∀ r, r ∈ L ↔ r < 2 ^ ss.length ∧ t.ev (lieV ss r) = true := fun r => by rw [← hL]; simp
      have hLn : L.Nodup := by rw [← hL]; exact List.Nodup.sublist List.filter_sublist List.nodup_range
      have e1 : (fun i => f i + (Ad.size c t).at ss nn i) = fun i => f i + if 1 ≤ i ∧ i - 1 ∈ L.take L.length then c else 0 := by
        funext i
        rw [List.take_length]
        show f i + (if 1 ≤ i ∧ i ≤ 2 ^ ss.length ∧ t.ev (lieV ss (i - 1)) = true then c else 0) = _
        have : (1 ≤ i ∧ i ≤ 2 ^ ss.length ∧ t.ev (lieV ss (i - 1)) = true) ↔ (1 ≤ i ∧ i - 1 ∈ L) := by
          rw [hLm]
          generalize 2 ^ ss.length = m
          constructor
          · rintro ⟨a1, a2, a3⟩; exact ⟨a1, by omega, a3⟩
          · rintro ⟨a1, a2, a3⟩; exact ⟨a1, by omega, a3⟩
        simp only [this]
      rw [e1]
      have hLt : ∀ r ∈ L, r < 2 ^ ss.length := fun r hr => ((hLm r).mp hr).1
      clear hLm e1 hL
      generalize hm : 2 ^ ss.length = m at *
      refine for_list (fun (r : Nat) => D.int (r : Int)) (fun j Γ => ∃ x6, Γ = [.val (talkD ss nn top), .val (.tup (as.map Ad.d)), .own (.lst ((rowF (1 + m + nn.length) fun i => f i + if 1 ≤ i ∧ i - 1 ∈ L.take j then c else 0).map D.int)), .val (.str "size"), .val (.int c), .own (.lst [t.d]), x6]) ⟨x6, ?_⟩ ?_ ?_
      · have : (fun i => f i + if 1 ≤ i ∧ i - 1 ∈ L.take 0 then c else 0) = f := by
          funext i; simp
        rw [this]
        rfl
      · rintro j r Γ hr ⟨x6, rfl⟩
        have hrm := hLt r (List.mem_of_getElem? hr)
        refine turnL_gv ?_
        refine gl_put rfl ?_
        dsimp only [List.set_cons_succ, List.set_cons_zero]
        have hW : 1 + r < 1 + m + nn.length := by omega
        have hnr : r ∉ L.take j := fun hm => by
          obtain ⟨j', hj', e⟩ := List.mem_take_iff_getElem.mp hm
          obtain ⟨hl, e2⟩ := List.getElem?_eq_some_iff.mp hr
          have := (List.getElem_inj hLn).mp (e.trans e2.symm)
          omega
        repeat walk_at "e"
        rw [show (1 + (r : Int)) = ((1 + r : Nat) : Int) by omega]
        have htk : L.take (j + 1) = L.take j ++ [r] := by rw [List.take_add_one, hr]; rfl
        have hnew : (rowF (1 + m + nn.length) fun i => (f i + if 1 ≤ i ∧ i - 1 ∈ L.take j then c else 0) + if i = 1 + r then c else 0) = rowF (1 + m + nn.length) fun i => f i + if 1 ≤ i ∧ i - 1 ∈ L.take (j + 1) then c else 0 := by
          refine rowF_ext fun i _ => ?_
          rw [htk]
          by_cases e : i = 1 + r
          · have h1 : i - 1 = r := by omega
            rw [if_pos e, h1, if_neg (fun z => hnr z.2), if_pos ⟨by omega, List.mem_append_right _ List.mem_cons_self⟩]
            omega
          · rw [if_neg e]
            by_cases h1 : 1 ≤ i
            · have h2 : (i - 1 ∈ L.take j ++ [r]) ↔ i - 1 ∈ L.take j := by
                rw [List.mem_append, List.mem_singleton]
                exact ⟨fun z => z.elim id fun z => by omega, .inl⟩
              simp only [h2, Int.add_zero]
            · rw [if_neg (fun z => h1 z.1), if_neg (fun z => h1 z.1)]
              omega
        rw [← hnew]
        clear hnew
        obtain ⟨g, hg⟩ : ∃ g : Nat → Int, ∀ i, (f i + if 1 ≤ i ∧ i - 1 ∈ L.take j then c else 0) = g i := ⟨_, fun _ => rfl⟩
        simp only [hg]
        refine gl_idxl (at_nat (d := .int (g (1 + r))) (by rw [List.getElem?_map, rowF_get hW]; rfl)) ?_
        repeat walk_at "e"
        refine ⟨2, _, _, rfl, rfl, (setD_nat (by rw [List.length_map, rowF_len]; exact hW)), ?_⟩
        rw [← List.map_set, rowF_set hW]
        repeat walk_at "e"
        exact ⟨_, rfl⟩
      · rintro Γ ⟨x6, rfl⟩
        repeat walk_at "e"
        exact ⟨_, _, _, _, rfl⟩
  · rintro Γ ⟨x3, x4, x5, x6, rfl⟩
    rw [List.take_length]
    repeat walk_at "w"
    exact gv_is rfl rfl

end Lk12

namespace Lk12
open Mi PySem L2
local macro_rules | `(tactic| walk_at "s") => `(tactic| (
  first
  | (with_reducible refine gs_cons ?_)
  | (with_reducible refine gs_asg ?_)
  | (with_reducible refine gs_ret ?_)
  | (with_reducible refine gs_exp ?_)
  | (with_reducible refine gs_setx ?_)
  | (with_reducible refine gs_nil ?_)
  | (with_reducible refine gv_con ?_)
  | ((with_reducible apply gv_var); exact rfl)
  | (with_reducible refine gv_bin ?_)
  | (with_reducible refine gv_cmp ?_)
  | (with_reducible refine gt_cmp ?_)
  | (with_reducible refine gv_idx ?_)
  | (with_reducible refine gv_bi ?_)
  | (with_reducible refine gt_bi ?_)
  | (with_reducible refine gv_cal ?_)
  | (with_reducible refine gv_tup ?_)
  | (with_reducible refine gv_lst ?_)
  | (with_reducible refine gv_slc ?_)
  | (with_reducible refine gv_not ?_)
  | (with_reducible refine gt_not ?_)
  | (with_reducible refine gf_nil ?_)
  | (with_reducible refine gf_cons ?_)
  | (with_reducible refine ga_nil ?_)
  | (with_reducible refine ga_cons ?_)
  | (with_reducible refine go_non ?_)
  | ((with_reducible apply gl_look); exact rfl)
  | ((with_reducible apply gl_frz); exact rfl)
  | (with_reducible refine gl_add ?_)
  | (with_reducible refine gl_sub ?_)
  | (with_reducible refine gl_lt ?_)
  | (with_reducible refine gl_le ?_)
  | (with_reducible refine gl_gt ?_)
  | (with_reducible refine gl_ge ?_)
  | (with_reducible refine gl_eq ?_)
  | (with_reducible refine gl_ne ?_)
  | (with_reducible refine gs_ife ?_)
  | (with_reducible refine gv_ite ?_)
  | ((with_reducible apply gl_rest); exact rfl)
  | ((with_reducible apply gl_put); exact rfl)
  | ((with_reducible apply gl_acc); exact rfl)
  | ((with_reducible apply gl_map); exact rfl)
  | ((with_reducible apply gl_tru); exact rfl)
  try dsimp only [List.set_cons_succ, List.set_cons_zero]))
local macro_rules | `(tactic| walk_at "w") => `(tactic| (
  first
  | (with_reducible refine gs_cons ?_)
  | (with_reducible refine gs_asg ?_)
  | (with_reducible refine gs_ret ?_)
  | (with_reducible refine gs_exp ?_)
  | (with_reducible refine gs_setx ?_)
  | (with_reducible refine gs_nil ?_)
  | (with_reducible refine gv_con ?_)
  | ((with_reducible apply gv_var); exact rfl)
  | ((with_reducible apply gt_var); exact rfl)
  | (with_reducible refine gv_bin ?_)
  | (with_reducible refine gv_cmp ?_)
  | (with_reducible refine gt_cmp ?_)
  | (with_reducible refine gv_idx ?_)
  | (with_reducible refine gv_bi ?_)
  | (with_reducible refine gt_bi ?_)
  | (with_reducible refine gv_isi1 ?_)
  | (with_reducible refine gt_isi1 ?_)
  | (with_reducible refine gv_cal ?_)
  | (with_reducible refine gv_fld ?_)
  | ((with_reducible apply gl_fld); exact rfl)
  | (with_reducible refine gv_mcl ?_)
  | (with_reducible refine gt_mcl ?_)
  | (with_reducible refine ins_is ?_)
  | (with_reducible refine gv_mk ?_)
  | (with_reducible refine gt_cal ?_)
  | (with_reducible refine gv_tup ?_)
  | (with_reducible refine gv_lst ?_)
  | (with_reducible refine gv_slc ?_)
  | (with_reducible refine gv_slx ?_)
  | (with_reducible refine gv_not ?_)
  | (with_reducible refine gt_not ?_)
  | (with_reducible refine gv_neg ?_)
  | (with_reducible refine gv_and ?_)
  | (with_reducible refine gv_or ?_)
  | (with_reducible refine gt_and ?_)
  | (with_reducible refine gt_or ?_)
  | (with_reducible refine gv_emp ?_)
  | (with_reducible refine gv_cpr ?_)
  | (with_reducible refine gs_for ?_)
  | (with_reducible refine gi_seq ?_)
  | (with_reducible refine gi_rng1 ?_)
  | (with_reducible refine gi_zip ?_)
  | (with_reducible refine gi_enu ?_)
  | (with_reducible refine gi_rev ?_)
  | (with_reducible refine gs_augx ?_)
  | (with_reducible refine gs_par ?_)
  | ((with_reducible apply gs_aug); exact rfl)
  | (with_reducible refine gl_aadd ?_)
  | (with_reducible refine gl_asub ?_)
  | (with_reducible refine gc_non ?_)
  | (with_reducible refine gc_som ?_)
  | (with_reducible refine turnK_gv ?_)
  | (with_reducible refine turnL_gv ?_)
  | (with_reducible refine gf_nil ?_)
  | (with_reducible refine gf_cons ?_)
  | (with_reducible refine ga_nil ?_)
  | (with_reducible refine ga_cons ?_)
  | (with_reducible refine go_non ?_)
  | (with_reducible refine go_som ?_)
  | (with_reducible refine ex_int ?_)
  | (with_reducible refine ex_bl ?_)
  | (with_reducible refine it_ ?_)
  | (with_reducible refine if_ ?_)
  | (with_reducible refine nit_ ?_)
  | (with_reducible refine nif_ ?_)
  | ((with_reducible apply gl_look); exact rfl)
  | ((with_reducible apply gl_frz); exact rfl)
  | (with_reducible refine gl_add ?_)
  | (with_reducible refine gl_sub ?_)
  | (with_reducible refine gl_lt ?_)
  | (with_reducible refine gl_le ?_)
  | (with_reducible refine gl_gt ?_)
  | (with_reducible refine gl_ge ?_)
  | (with_reducible refine gl_eq ?_)
  | (with_reducible refine gl_ne ?_)
  | (with_reducible refine gl_eqs ?_)
  | (with_reducible refine gl_nes ?_)
  | (with_reducible refine gl_eqb ?_)
  | (with_reducible refine gl_neb ?_)
  | (with_reducible refine gl_mul (mulOk_s (small60 (by omega)) (small60 (by omega))) ?_)
  | ((with_reducible apply gl_pow); exact ⟨by decide, .inl ⟨by decide, by decide⟩⟩)
  | (with_reducible refine gl_mod (by omega) ?_)
  | (with_reducible refine gl_div (divOk_s (small60 (by omega)) (by omega)) ?_)
  | (with_reducible refine gl_len ?_)
  | (with_reducible refine gl_lenT ?_)
  | (with_reducible refine gl_abs ?_)
  | (with_reducible refine gs_whl ?_)
  | (with_reducible refine gl_sum ?_)
  | (with_reducible refine gl_sum2 ?_)
  | (with_reducible refine gl_all ?_)
  | (with_reducible refine gl_any ?_)
  | (with_reducible refine gs_ife ?_)
  | (with_reducible refine gv_ite ?_)
  | ((with_reducible apply gl_rest); exact rfl)
  | ((with_reducible apply gl_put); exact rfl)
  | ((with_reducible apply gl_acc); exact rfl)
  | (with_reducible refine gl_map1 rfl ?_)
  | (with_reducible refine gl_map2 rfl rfl ?_)
  | ((with_reducible apply gl_map); exact rfl)
  | ((with_reducible apply gl_tru); exact rfl)
  | ((with_reducible apply gl_walk); exact rfl)
  | ((with_reducible apply gl_items); exact rfl)
  | ((with_reducible apply gl_ty); exact rfl)
  | (with_reducible refine gl_slc1T ?_)
  | (with_reducible refine gl_slc1L ?_)
  | (with_reducible refine gl_slcTa ?_)
  | (with_reducible refine gl_slcTb ?_)
  | (with_reducible refine gl_slcLa ?_)
  | (with_reducible refine gl_slcLb ?_)
  | ((with_reducible apply gl_idxt); exact rfl)
  | ((with_reducible apply gl_idxl); exact rfl)
  | ((with_reducible apply gl_bi); exact rfl)
  | ((with_reducible apply gl_cop); exact rfl)
  | dsimp only [List.set_cons_succ, List.set_cons_zero, backs, Out.en, Rt.r, lend, back, restG, wipeG, Option.toList, List.nil_append, List.append_nil, List.cons_append, List.getElem?_cons_zero, List.getElem?_cons_succ, OD.d, Mi.isNon, List.map]
  try dsimp only [List.set_cons_succ, List.set_cons_zero, backs, Out.en, Rt.r, lend, back, restG, wipeG, Option.toList, List.nil_append, List.append_nil, List.cons_append, List.getElem?_cons_zero, List.getElem?_cons_succ, OD.d, Mi.isNon, List.map]))
set_option hygiene false in
local macro_rules | `(tactic| walk_at "take") => `(tactic| (
  refine take_c rfl rfl (by assumption) (by assumption) (by omega) (small60 (by omega)) (by omega) ?_
  intro r o ra rb hp
  dsimp only [List.set_cons_succ, List.set_cons_zero, backs, Out.en, Rt.r, lend, back, restG, wipeG, Option.toList, List.nil_append, List.append_nil, List.cons_append, List.getElem?_cons_zero, List.getElem?_cons_succ, OD.d, Mi.isNon, List.map]))

/-! ### the law's own row of a sum -/
local macro_rules | `(tactic| walk_at "e") => `(tactic| (first
  | walk_at "w"
  | (refine if_b (fun h => absurd h (by decide)) (fun _ => ?_))
  | (refine if_b (fun _ => ?_) (fun h => absurd h (by decide)))))
def LrgS (f : Sem1) : Prop := ∀ ss : List Str, ss.length ≤ 3 → Gv (f [.val (.tup (ss.map D.str))]) fun q => q = (.val (.int ((2 ^ ss.length : Nat) : Int)), [.non])
theorem lrgS {C : Mi.Ctx} : LrgS (runD C t26) := by
  intro ss hs
  refine gd_run rfl ?_
  show Gv (exs C b26 [.val (.tup (ss.map D.str)), .un, .un]) _
  unfold b26
  repeat walk_at "w"
  refine for_list D.str (fun i Γ => ∃ x2, Γ = [.val (.tup (ss.map D.str)), .val (.int ((2 ^ i : Nat) : Int)), x2]) ⟨_, rfl⟩ ?_ ?_
  · rintro i s Γ hi ⟨x2, rfl⟩
    have hil := (List.getElem?_eq_some_iff.mp hi).1
    have := pw3 (show i ≤ 3 by omega)
    refine turnL_gv ?_
    refine gl_put rfl ?_
    dsimp only [List.set_cons_succ, List.set_cons_zero]
    generalize hk : 2 ^ i = k at *
    have : (2 : Nat) ^ (i + 1) = k * 2 := by rw [Nat.pow_succ, hk]
    rw [this]
    repeat walk_at "w"
    exact ⟨_, rfl⟩
  rintro Γ ⟨x4, rfl⟩
  repeat walk_at "w"
  exact gv_is rfl rfl
theorem enu_zip : ∀ (xs : List Str) (k : Nat), enuD k (xs.map D.str) = (xs.zipIdx k).map fun p => .tup [.int (p.2 : Int), .str p.1]
  | [], _ => rfl
  | x :: xs, k => by
    rw [List.map_cons, enuD, enu_zip xs (k + 1), List.zipIdx_cons, List.map_cons]
theorem enu_first {s : Str} : ∀ {xs : List Str} {k : Nat}, s ∈ xs → ((xs.zipIdx k).filter fun p => p.1 == s)[0]? = some (s, k + (xs.findIdx? (fun z => z == s)).getD 0)
  | [], _, h => by simp at h
  | x :: xs, k, h => by
    rw [List.zipIdx_cons, List.filter_cons, List.findIdx?_cons]
    cases hb : (x == s) with
    | true =>
      have : x = s := eq_of_beq hb
      subst this
      simp
    | false =>
      have hm : s ∈ xs := by
        rcases List.mem_cons.mp h with rfl | h
        · simp at hb
        · exact h
      have ih := enu_first (xs := xs) (k := k + 1) hm
      have hs : (xs.findIdx? fun z => z == s).isSome = true := by
        rw [List.findIdx?_isSome, List.any_eq_true]
        exact ⟨s, hm, by simp⟩
      obtain ⟨j, hj⟩ := Option.isSome_iff_exists.mp hs
      rw [hj] at ih ⊢
      simp only [Bool.false_eq_true, if_false, Option.map_some, Option.getD_some] at ih ⊢
      rw [ih]
      congr 2
      omega
def LsrS (f : Sem1) : Prop := ∀ (ss nn : List Str) (as : List Ad), ss.length ≤ 3 → nn.length ≤ 3 → as.length ≤ 20 → (∀ a ∈ as, a.ok ss nn) → Gv (f [.val (.tup [.tup (ss.map D.str), .tup (nn.map D.str)]), .val (.tup (as.map Ad.d))]) fun q => q = (.val (.tup ((rowV ss nn as).map D.int)), [.non, .non])
theorem lsrS {C : Mi.Ctx} (hM : LrgS (C.ft 26)) (hI : LinS 12 (C.ft 20)) : LsrS (runD C t27) := by
  intro ss nn as hs hn hal hok
  refine gd_run rfl ?_
  show Gv (exs C b27 [.val (.tup [.tup (ss.map D.str), .tup (nn.map D.str)]), .val (.tup (as.map Ad.d)), .un, .un, .un, .un, .un, .un, .un]) _
  unfold b27
  have hm8 := pw3 hs
  have hmp : 1 ≤ 2 ^ ss.length := Nat.one_le_two_pow
  repeat walk_at "w"
  refine callT_gv rfl rfl (gv_mono (hM ss hs) ?_)
  rintro _ rfl
  repeat walk_at "w"
  rw [len_map, show (1 + ((2 ^ ss.length : Nat) : Int) + (nn.length : Int)) = ((1 + 2 ^ ss.length + nn.length : Nat) : Int) by rw [Int.natCast_add, Int.natCast_add]; rfl]
  refine rng_i (by generalize 2 ^ ss.length = m at *; omega) (by generalize 2 ^ ss.length = m at *; omega) ?_
  refine len_rng (by generalize 2 ^ ss.length = m at *; omega) ?_
  refine cpr_mapD (fun _ => .int 0) (fun d hd => ?_) ?_
  · repeat walk_at "w"
  rw [range_zero]
  have e0 : List.replicate (1 + 2 ^ ss.length + nn.length) (0 : Int) = rowV ss nn [] := by
    unfold rowV rowF
    simp only [List.map_nil, List.sum_nil, List.map_const', List.length_range]
  rw [e0]
  repeat walk_at "w"
  refine for_list Ad.d (fun k Γ => ∃ x4 x5 x6, Γ = [.val (.tup [.tup (ss.map D.str), .tup (nn.map D.str)]), .val (.tup (as.map Ad.d)), .val (.int ((2 ^ ss.length : Nat) : Int)), .own (.lst ((rowV ss nn (as.take k)).map D.int)), x4, x5, x6, .un, .un]) ⟨_, _, _, rfl⟩ ?_ ?_
  · rintro k a Γ ha ⟨x4, x5, x6, rfl⟩
    have hao := hok a (List.mem_of_getElem? ha)
    have etk : as.take (k + 1) = as.take k ++ [a] := by rw [List.take_add_one, ha]; rfl
    rw [etk]
    generalize as.take k = bs
    obtain ⟨f, hf⟩ : ∃ f : Nat → Int, ∀ i, (bs.map (Ad.at ss nn i)).sum = f i := ⟨_, fun _ => rfl⟩
    have hrow : rowV ss nn bs = rowF (1 + 2 ^ ss.length + nn.length) f := rowF_ext fun i _ => hf i
    have hsn : rowV ss nn (bs ++ [a]) = rowF (1 + 2 ^ ss.length + nn.length) fun i => f i + a.at ss nn i := by
      rw [rowV_snoc]
      exact rowF_ext fun i _ => by rw [hf]
    rw [hsn, hrow]
    refine turnL_gv ?_
    cases a with
    | lot c =>
      have e1 : (fun i => f i + (Ad.lot c).at ss nn i) = fun i => f i + if i = 0 then c else 0 := rfl
      rw [e1]
      have hW : 0 < 1 + 2 ^ ss.length + nn.length := by omega
      generalize 1 + 2 ^ ss.length + nn.length = W at *
      refine gl_put rfl ?_
      dsimp only [List.set_cons_succ, List.set_cons_zero, Ad.d]
      repeat walk_at "e"
      refine gl_idxl (at_int (by decide) (show ((rowF W f).map D.int)[(0 : Int).toNat]? = some (.int (f 0)) by rw [List.getElem?_map]; show ((rowF W f)[0]?).map _ = _; rw [rowF_get hW]; rfl)) ?_
      repeat walk_at "e"
      refine ⟨3, _, _, rfl, rfl, (setD_nat (k := 0) (by rw [List.length_map, rowF_len]; exact hW)), ?_⟩
      rw [← List.map_set, rowF_set hW]
      repeat walk_at "e"
      exact ⟨_, _, _, rfl⟩
    | num c s =>
      have hfl := find_lt (nn := nn) (s := s) hao
      have e1 : (fun i => f i + (Ad.num c s).at ss nn i) = fun i => f i + if i = 1 + 2 ^ ss.length + (nn.findIdx? (fun z => z == s)).getD 0 then c else 0 := rfl
      rw [e1]
      refine gl_put rfl ?_
      dsimp only [List.set_cons_succ, List.set_cons_zero, Ad.d]
      repeat walk_at "e"
      rw [enu_zip]
      refine len_lst (by rw [List.length_zipIdx]; omega) ?_
      refine cpr_filter _ (fun p => .int (p.2 : Int)) (fun p => p.1 == s) (fun p hp => ?_) ?_
      · repeat walk_at "e"
        cases hb : (p.1 == s)
        all_goals
          repeat walk_at "e"
          try rfl
      have hfirst := enu_first (k := 0) hao
      rw [Nat.zero_add] at hfirst
      generalize (nn.findIdx? (fun z => z == s)).getD 0 = q at *
      generalize hm : 2 ^ ss.length = m at *
      repeat walk_at "e"
      refine gl_idxl (at_nat (n := 0) (d := .int (q : Int)) (by rw [List.getElem?_map, hfirst]; rfl)) ?_
      repeat walk_at "e"
      rw [show (1 + (m : Int) + (q : Int)) = ((1 + m + q : Nat) : Int) by omega]
      have hW : 1 + m + q < 1 + m + nn.length := by omega
      refine gl_idxl (at_nat (d := .int (f (1 + m + q))) (by rw [List.getElem?_map, rowF_get hW]; rfl)) ?_
      repeat walk_at "e"
      refine ⟨3, _, _, rfl, rfl, (setD_nat (by rw [List.length_map, rowF_len]; exact hW)), ?_⟩
      rw [← List.map_set, rowF_set hW]
      repeat walk_at "e"
      exact ⟨_, _, _, rfl⟩
    | size c t =>
      refine gl_put rfl ?_
      dsimp only [List.set_cons_succ, List.set_cons_zero, Ad.d]
      repeat walk_at "e"
      refine rng_i (by generalize 2 ^ ss.length = m at *; omega) (by generalize 2 ^ ss.length = m at *; omega) ?_
      have e1 : (fun i => f i + (Ad.size c t).at ss nn i) = fun i => f i + if 1 ≤ i ∧ i ≤ 2 ^ ss.length ∧ t.ev (lieV ss (i - 1)) = true then c else 0 := rfl
      rw [e1]
      clear e1
      generalize hm : 2 ^ ss.length = m at *
      refine forL_gv (fun j Γ => ∃ x6, Γ = [.val (.tup [.tup (ss.map D.str), .tup (nn.map D.str)]), .val (.tup (as.map Ad.d)), .val (.int (m : Int)), .own (.lst ((rowF (1 + m + nn.length) fun i => f i + if 1 ≤ i ∧ i ≤ j ∧ t.ev (lieV ss (i - 1)) = true then c else 0).map D.int)), .val (.tup [.str "size", .int c, t.d]), x5, x6, .un, .un]) ⟨x6, ?_⟩ ?_ ?_
      · have : (fun i => f i + if 1 ≤ i ∧ i ≤ 0 ∧ t.ev (lieV ss (i - 1)) = true then c else 0) = f := by
          funext i
          rw [if_neg (by omega)]
          omega
        rw [this]
      · rintro j d Γ hd ⟨x6, rfl⟩
        obtain ⟨rfl, hj⟩ := range_at hd
        refine turnL_gv ?_
        refine gl_put rfl ?_
        dsimp only [List.set_cons_succ, List.set_cons_zero]
        have hW : 1 + j < 1 + m + nn.length := by omega
        repeat walk_at "e"
        refine callT_gv rfl rfl (gv_mono (hI ss j t hao.2 hs hao.1) ?_)
        rintro _ rfl
        cases hb : t.ev (lieV ss j) with
        | false =>
          have hnew : (rowF (1 + m + nn.length) fun i => f i + if 1 ≤ i ∧ i ≤ j ∧ t.ev (lieV ss (i - 1)) = true then c else 0) = rowF (1 + m + nn.length) fun i => f i + if 1 ≤ i ∧ i ≤ j + 1 ∧ t.ev (lieV ss (i - 1)) = true then c else 0 := by
            refine rowF_ext fun i _ => ?_
            by_cases e : i = j + 1
            · have h1 : i - 1 = j := by omega
              rw [h1, hb, if_neg (by simp), if_neg (by simp)]
            · have h2 : (1 ≤ i ∧ i ≤ j ∧ t.ev (lieV ss (i - 1)) = true) ↔ (1 ≤ i ∧ i ≤ j + 1 ∧ t.ev (lieV ss (i - 1)) = true) := ⟨fun z => ⟨z.1, by omega, z.2.2⟩, fun z => ⟨z.1, by omega, z.2.2⟩⟩
              simp only [h2]
          rw [← hnew]
          repeat walk_at "e"
          exact ⟨_, rfl⟩
        | true =>
          have hnew : (rowF (1 + m + nn.length) fun i => (f i + if 1 ≤ i ∧ i ≤ j ∧ t.ev (lieV ss (i - 1)) = true then c else 0) + if i = 1 + j then c else 0) = rowF (1 + m + nn.length) fun i => f i + if 1 ≤ i ∧ i ≤ j + 1 ∧ t.ev (lieV ss (i - 1)) = true then c else 0 := by
            refine rowF_ext fun i _ => ?_
            by_cases e : i = 1 + j
            · have h1 : i - 1 = j := by omega
              rw [h1, hb, if_pos e, if_neg (by omega), if_pos ⟨by omega, by omega, rfl⟩]
              omega
            · have h2 : (1 ≤ i ∧ i ≤ j ∧ t.ev (lieV ss (i - 1)) = true) ↔ (1 ≤ i ∧ i ≤ j + 1 ∧ t.ev (lieV ss (i - 1)) = true) := ⟨fun z => ⟨z.1, by omega, z.2.2⟩, fun z => ⟨z.1, by omega, z.2.2⟩⟩
              rw [if_neg e]
              simp only [h2, Int.add_zero]
          rw [← hnew]
          clear hnew
          obtain ⟨g, hg⟩ : ∃ g : Nat → Int, ∀ i, (f i + if 1 ≤ i ∧ i ≤ j ∧ t.ev (lieV ss (i - 1)) = true then c else 0) = g i := ⟨_, fun _ => rfl⟩
          simp only [hg]
          repeat walk_at "e"
          rw [show (1 + (j : Int)) = ((1 + j : Nat) : Int) by omega]
          refine gl_idxl (at_nat (d := .int (g (1 + j))) (by rw [List.getElem?_map, rowF_get hW]; rfl)) ?_
          repeat walk_at "e"
          refine ⟨3, _, _, rfl, rfl, (setD_nat (by rw [List.length_map, rowF_len]; exact hW)), ?_⟩
          rw [← List.map_set, rowF_set hW]
          repeat walk_at "e"
          exact ⟨_, rfl⟩
      · rintro Γ ⟨x6, rfl⟩
        rw [range_len]
        repeat walk_at "e"
        exact ⟨_, _, _, rfl⟩
  · rintro Γ ⟨x4, x5, x6, rfl⟩
    rw [List.take_length]
    repeat walk_at "w"
    exact gv_is rfl rfl

end Lk12

namespace Lk12
open Mi PySem L2
local macro_rules | `(tactic| walk_at "s") => `(tactic| (
  first
  | (with_reducible refine gs_cons ?_)
  | (with_reducible refine gs_asg ?_)
  | (with_reducible refine gs_ret ?_)
  | (with_reducible refine gs_exp ?_)
  | (with_reducible refine gs_setx ?_)
  | (with_reducible refine gs_nil ?_)
  | (with_reducible refine gv_con ?_)
  | ((with_reducible apply gv_var); exact rfl)
  | (with_reducible refine gv_bin ?_)
  | (with_reducible refine gv_cmp ?_)
  | (with_reducible refine gt_cmp ?_)
  | (with_reducible refine gv_idx ?_)
  | (with_reducible refine gv_bi ?_)
  | (with_reducible refine gt_bi ?_)
  | (with_reducible refine gv_cal ?_)
  | (with_reducible refine gv_tup ?_)
  | (with_reducible refine gv_lst ?_)
  | (with_reducible refine gv_slc ?_)
  | (with_reducible refine gv_not ?_)
  | (with_reducible refine gt_not ?_)
  | (with_reducible refine gf_nil ?_)
  | (with_reducible refine gf_cons ?_)
  | (with_reducible refine ga_nil ?_)
  | (with_reducible refine ga_cons ?_)
  | (with_reducible refine go_non ?_)
  | ((with_reducible apply gl_look); exact rfl)
  | ((with_reducible apply gl_frz); exact rfl)
  | (with_reducible refine gl_add ?_)
  | (with_reducible refine gl_sub ?_)
  | (with_reducible refine gl_lt ?_)
  | (with_reducible refine gl_le ?_)
  | (with_reducible refine gl_gt ?_)
  | (with_reducible refine gl_ge ?_)
  | (with_reducible refine gl_eq ?_)
  | (with_reducible refine gl_ne ?_)
  | (with_reducible refine gs_ife ?_)
  | (with_reducible refine gv_ite ?_)
  | ((with_reducible apply gl_rest); exact rfl)
  | ((with_reducible apply gl_put); exact rfl)
  | ((with_reducible apply gl_acc); exact rfl)
  | ((with_reducible apply gl_map); exact rfl)
  | ((with_reducible apply gl_tru); exact rfl)
  try dsimp only [List.set_cons_succ, List.set_cons_zero]))
local macro_rules | `(tactic| walk_at "w") => `(tactic| (
  first
  | (with_reducible refine gs_cons ?_)
  | (with_reducible refine gs_asg ?_)
  | (with_reducible refine gs_ret ?_)
  | (with_reducible refine gs_exp ?_)
  | (with_reducible refine gs_setx ?_)
  | (with_reducible refine gs_nil ?_)
  | (with_reducible refine gv_con ?_)
  | ((with_reducible apply gv_var); exact rfl)
  | ((with_reducible apply gt_var); exact rfl)
  | (with_reducible refine gv_bin ?_)
  | (with_reducible refine gv_cmp ?_)
  | (with_reducible refine gt_cmp ?_)
  | (with_reducible refine gv_idx ?_)
  | (with_reducible refine gv_bi ?_)
  | (with_reducible refine gt_bi ?_)
  | (with_reducible refine gv_isi1 ?_)
  | (with_reducible refine gt_isi1 ?_)
  | (with_reducible refine gv_cal ?_)
  | (with_reducible refine gv_fld ?_)
  | ((with_reducible apply gl_fld); exact rfl)
  | (with_reducible refine gv_mcl ?_)
  | (with_reducible refine gt_mcl ?_)
  | (with_reducible refine ins_is ?_)
  | (with_reducible refine gv_mk ?_)
  | (with_reducible refine gt_cal ?_)
  | (with_reducible refine gv_tup ?_)
  | (with_reducible refine gv_lst ?_)
  | (with_reducible refine gv_slc ?_)
  | (with_reducible refine gv_slx ?_)
  | (with_reducible refine gv_not ?_)
  | (with_reducible refine gt_not ?_)
  | (with_reducible refine gv_neg ?_)
  | (with_reducible refine gv_and ?_)
  | (with_reducible refine gv_or ?_)
  | (with_reducible refine gt_and ?_)
  | (with_reducible refine gt_or ?_)
  | (with_reducible refine gv_emp ?_)
  | (with_reducible refine gv_cpr ?_)
  | (with_reducible refine gs_for ?_)
  | (with_reducible refine gi_seq ?_)
  | (with_reducible refine gi_rng1 ?_)
  | (with_reducible refine gi_zip ?_)
  | (with_reducible refine gi_enu ?_)
  | (with_reducible refine gi_rev ?_)
  | (with_reducible refine gs_augx ?_)
  | (with_reducible refine gs_par ?_)
  | ((with_reducible apply gs_aug); exact rfl)
  | (with_reducible refine gl_aadd ?_)
  | (with_reducible refine gl_asub ?_)
  | (with_reducible refine gc_non ?_)
  | (with_reducible refine gc_som ?_)
  | (with_reducible refine turnK_gv ?_)
  | (with_reducible refine turnL_gv ?_)
  | (with_reducible refine gf_nil ?_)
  | (with_reducible refine gf_cons ?_)
  | (with_reducible refine ga_nil ?_)
  | (with_reducible refine ga_cons ?_)
  | (with_reducible refine go_non ?_)
  | (with_reducible refine go_som ?_)
  | (with_reducible refine ex_int ?_)
  | (with_reducible refine ex_bl ?_)
  | (with_reducible refine it_ ?_)
  | (with_reducible refine if_ ?_)
  | (with_reducible refine nit_ ?_)
  | (with_reducible refine nif_ ?_)
  | ((with_reducible apply gl_look); exact rfl)
  | ((with_reducible apply gl_frz); exact rfl)
  | (with_reducible refine gl_add ?_)
  | (with_reducible refine gl_sub ?_)
  | (with_reducible refine gl_lt ?_)
  | (with_reducible refine gl_le ?_)
  | (with_reducible refine gl_gt ?_)
  | (with_reducible refine gl_ge ?_)
  | (with_reducible refine gl_eq ?_)
  | (with_reducible refine gl_ne ?_)
  | (with_reducible refine gl_eqs ?_)
  | (with_reducible refine gl_nes ?_)
  | (with_reducible refine gl_eqb ?_)
  | (with_reducible refine gl_neb ?_)
  | (with_reducible refine gl_mul (mulOk_s (small60 (by omega)) (small60 (by omega))) ?_)
  | ((with_reducible apply gl_pow); exact ⟨by decide, .inl ⟨by decide, by decide⟩⟩)
  | (with_reducible refine gl_mod (by omega) ?_)
  | (with_reducible refine gl_div (divOk_s (small60 (by omega)) (by omega)) ?_)
  | (with_reducible refine gl_len ?_)
  | (with_reducible refine gl_lenT ?_)
  | (with_reducible refine gl_abs ?_)
  | (with_reducible refine gs_whl ?_)
  | (with_reducible refine gl_sum ?_)
  | (with_reducible refine gl_sum2 ?_)
  | (with_reducible refine gl_all ?_)
  | (with_reducible refine gl_any ?_)
  | (with_reducible refine gs_ife ?_)
  | (with_reducible refine gv_ite ?_)
  | ((with_reducible apply gl_rest); exact rfl)
  | ((with_reducible apply gl_put); exact rfl)
  | ((with_reducible apply gl_acc); exact rfl)
  | (with_reducible refine gl_map1 rfl ?_)
  | (with_reducible refine gl_map2 rfl rfl ?_)
  | ((with_reducible apply gl_map); exact rfl)
  | ((with_reducible apply gl_tru); exact rfl)
  | ((with_reducible apply gl_walk); exact rfl)
  | ((with_reducible apply gl_items); exact rfl)
  | ((with_reducible apply gl_ty); exact rfl)
  | (with_reducible refine gl_slc1T ?_)
  | (with_reducible refine gl_slc1L ?_)
  | (with_reducible refine gl_slcTa ?_)
  | (with_reducible refine gl_slcTb ?_)
  | (with_reducible refine gl_slcLa ?_)
  | (with_reducible refine gl_slcLb ?_)
  | ((with_reducible apply gl_idxt); exact rfl)
  | ((with_reducible apply gl_idxl); exact rfl)
  | ((with_reducible apply gl_bi); exact rfl)
  | ((with_reducible apply gl_cop); exact rfl)
  | dsimp only [List.set_cons_succ, List.set_cons_zero, backs, Out.en, Rt.r, lend, back, restG, wipeG, Option.toList, List.nil_append, List.append_nil, List.cons_append, List.getElem?_cons_zero, List.getElem?_cons_succ, OD.d, Mi.isNon, List.map]
  try dsimp only [List.set_cons_succ, List.set_cons_zero, backs, Out.en, Rt.r, lend, back, restG, wipeG, Option.toList, List.nil_append, List.append_nil, List.cons_append, List.getElem?_cons_zero, List.getElem?_cons_succ, OD.d, Mi.isNon, List.map]))
set_option hygiene false in
local macro_rules | `(tactic| walk_at "take") => `(tactic| (
  refine take_c rfl rfl (by assumption) (by assumption) (by omega) (small60 (by omega)) (by omega) ?_
  intro r o ra rb hp
  dsimp only [List.set_cons_succ, List.set_cons_zero, backs, Out.en, Rt.r, lend, back, restG, wipeG, Option.toList, List.nil_append, List.append_nil, List.cons_append, List.getElem?_cons_zero, List.getElem?_cons_succ, OD.d, Mi.isNon, List.map]))

/-! ### the term of one region -/
def sideT (ss : List Str) (r : Nat) (s : Str) : Tm := if lieV ss r s = true then .nm s else .not (.nm s)
def altF (ss : List Str) (r : Nat) (o : Option Tm) (s : Str) : Option Tm := some (match o with
  | none => sideT ss r s
  | some t => .and t (sideT ss r s))
def altT (ss : List Str) (r : Nat) (l : List Str) : Option Tm := l.foldl (altF ss r) none
def oD : Option Tm → D
  | none => .non
  | some t => t.d
theorem nonT (t : Tm) : Mi.isNon t.d = false := by cases t <;> rfl
def AloS (f : Sem1) : Prop := ∀ (ss nn : List Str) (top : Int) (r : Nat), ss.length ≤ 3 → r < 2 ^ ss.length → Gv (f [.val (talkD ss nn top), .val (.int r)]) fun q => q = (.val (oD (altT ss r ss)), [.non, .non])
theorem aloS {C : Mi.Ctx} (hS : SetsS (C.ft 38)) (hL : LieS (C.ft 39)) : AloS (runD C t8) := by
  intro ss nn top r hs hr
  refine gd_run rfl ?_
  show Gv (exs C b8 [.val (talkD ss nn top), .val (.int r), .un, .un, .un]) _
  unfold b8
  repeat walk_at "w"
  refine ins_is ?_
  repeat walk_at "w"
  refine callT_gv rfl rfl (gv_mono (hS ss nn top) ?_)
  rintro _ rfl
  repeat walk_at "w"
  refine for_list D.str (fun i Γ => ∃ x3 x4, Γ = [.val (talkD ss nn top), .val (.int r), .val (oD (altT ss r (ss.take i))), x3, x4]) ⟨_, _, rfl⟩ ?_ ?_
  · rintro i s Γ hi ⟨x3, x4, rfl⟩
    have hm := List.mem_of_getElem? hi
    have etk : altT ss r (ss.take (i + 1)) = altF ss r (altT ss r (ss.take i)) s := by
      unfold altT
      rw [List.take_add_one, hi, List.foldl_append]
      rfl
    rw [etk]
    generalize altT ss r (ss.take i) = o
    refine turnL_gv ?_
    refine gl_put rfl ?_
    dsimp only [List.set_cons_succ, List.set_cons_zero]
    repeat walk_at "w"
    refine ins_is ?_
    repeat walk_at "w"
    refine callT_gv rfl rfl (gv_mono (hL ss nn top r s hs hr hm) ?_)
    rintro _ rfl
    repeat walk_at "w"
    have hside : sideT ss r s = if lieV ss r s = true then .nm s else .not (.nm s) := rfl
    cases hb : lieV ss r s
    all_goals
      rw [hb] at hside
      first | rw [if_pos rfl] at hside | rw [if_neg (by decide)] at hside
      repeat walk_at "w"
      cases o with
      | none =>
        rw [show altF ss r none s = some (sideT ss r s) from rfl, hside]
        dsimp only [oD]
        repeat walk_at "w"
        try refine gv_var rfl ?_
        repeat walk_at "w"
        exact ⟨_, _, rfl⟩
      | some t =>
        rw [show altF ss r (some t) s = some (.and t (sideT ss r s)) from rfl, hside]
        dsimp only [oD]
        repeat walk_at "w"
        refine if_b (fun h => absurd (h.symm.trans (nonT t)) (by decide)) (fun _ => ?_)
        repeat walk_at "w"
        try refine gv_var rfl ?_
        repeat walk_at "w"
        exact ⟨_, _, rfl⟩
  · rintro Γ ⟨x3, x4, rfl⟩
    rw [List.take_length]
    repeat walk_at "w"
    exact gv_is rfl rfl
def regT (ss : List Str) (r : Nat) : Tm := match altT ss r ss with
  | some t => if ss.length = 0 then .all else t
  | none => .all
theorem altT_some : ∀ {l ss : List Str} {r : Nat} {o : Option Tm}, (l ≠ [] ∨ o.isSome = true) → ∃ t, l.foldl (altF ss r) o = some t
  | [], ss, r, o, h => by
    rcases h with h | h
    · exact absurd rfl h
    · exact Option.isSome_iff_exists.mp h
  | s :: l, ss, r, o, _ => altT_some (l := l) (.inr rfl)
theorem gl_inI {x : Int} {fs : List Int} {Q : Bool → Prop} (p : Q (fs.contains x)) : Gv (cop .In (.int x) (.lst (fs.map D.int))) Q := by
  refine gv_is ?_ p
  show (if flat (.int x) && flats (fs.map D.int) then some (isIn (.int x) (fs.map D.int)) else none) = _
  have : ∀ fs : List Int, isIn (.int x) (fs.map D.int) = fs.contains x := by
    intro fs
    induction fs with
    | nil => rfl
    | cons f fs ih =>
      show (deq (.int f) (.int x) || isIn (.int x) (fs.map D.int)) = _
      rw [ih, List.contains_cons, deq, Bool.beq_comm]
  rw [flats_ints, this]
  rfl
def TrmS (f : Sem1) : Prop := ∀ (ss nn : List Str) (top : Int) (r : Nat), ss.length ≤ 3 → r < 2 ^ ss.length → Gv (f [.val (talkD ss nn top), .val (.lst [.int r])]) fun q => q = (.val (regT ss r).d, [.non, .non])
theorem filter_one {r m : Nat} (h : r < m) : (List.range m).filter (fun (i : Nat) => [(r : Int)].contains (i : Int)) = [r] := by
  have e : (fun i : Nat => [(r : Int)].contains (i : Int)) = fun i => i == r := by
    funext i
    by_cases g : i = r
    · subst g; simp
    · have : ((i : Int) == (r : Int)) = false := by simp; omega
      have h2 : (i == r) = false := by simpa using g
      rw [h2, List.contains_cons, this]
      rfl
  rw [e]
  induction m with
  | zero => omega
  | succ m ih =>
    rw [List.range_succ, List.filter_append]
    by_cases g : r = m
    · subst g
      have : (List.range r).filter (fun i => i == r) = [] := by
        rw [List.filter_eq_nil_iff]
        intro i hi
        have : i < r := by simpa using hi
        simp; omega
      rw [this]
      simp
    · rw [ih (by omega)]
      have : ([m].filter fun i => i == r) = [] := by simp; omega
      rw [this]
      rfl

end Lk12

namespace Lk12
open Mi PySem L2
local macro_rules | `(tactic| walk_at "s") => `(tactic| (
  first
  | (with_reducible refine gs_cons ?_)
  | (with_reducible refine gs_asg ?_)
  | (with_reducible refine gs_ret ?_)
  | (with_reducible refine gs_exp ?_)
  | (with_reducible refine gs_setx ?_)
  | (with_reducible refine gs_nil ?_)
  | (with_reducible refine gv_con ?_)
  | ((with_reducible apply gv_var); exact rfl)
  | (with_reducible refine gv_bin ?_)
  | (with_reducible refine gv_cmp ?_)
  | (with_reducible refine gt_cmp ?_)
  | (with_reducible refine gv_idx ?_)
  | (with_reducible refine gv_bi ?_)
  | (with_reducible refine gt_bi ?_)
  | (with_reducible refine gv_cal ?_)
  | (with_reducible refine gv_tup ?_)
  | (with_reducible refine gv_lst ?_)
  | (with_reducible refine gv_slc ?_)
  | (with_reducible refine gv_not ?_)
  | (with_reducible refine gt_not ?_)
  | (with_reducible refine gf_nil ?_)
  | (with_reducible refine gf_cons ?_)
  | (with_reducible refine ga_nil ?_)
  | (with_reducible refine ga_cons ?_)
  | (with_reducible refine go_non ?_)
  | ((with_reducible apply gl_look); exact rfl)
  | ((with_reducible apply gl_frz); exact rfl)
  | (with_reducible refine gl_add ?_)
  | (with_reducible refine gl_sub ?_)
  | (with_reducible refine gl_lt ?_)
  | (with_reducible refine gl_le ?_)
  | (with_reducible refine gl_gt ?_)
  | (with_reducible refine gl_ge ?_)
  | (with_reducible refine gl_eq ?_)
  | (with_reducible refine gl_ne ?_)
  | (with_reducible refine gs_ife ?_)
  | (with_reducible refine gv_ite ?_)
  | ((with_reducible apply gl_rest); exact rfl)
  | ((with_reducible apply gl_put); exact rfl)
  | ((with_reducible apply gl_acc); exact rfl)
  | ((with_reducible apply gl_map); exact rfl)
  | ((with_reducible apply gl_tru); exact rfl)
  try dsimp only [List.set_cons_succ, List.set_cons_zero]))
local macro_rules | `(tactic| walk_at "w") => `(tactic| (
  first
  | (with_reducible refine gs_cons ?_)
  | (with_reducible refine gs_asg ?_)
  | (with_reducible refine gs_ret ?_)
  | (with_reducible refine gs_exp ?_)
  | (with_reducible refine gs_setx ?_)
  | (with_reducible refine gs_nil ?_)
  | (with_reducible refine gv_con ?_)
  | ((with_reducible apply gv_var); exact rfl)
  | ((with_reducible apply gt_var); exact rfl)
  | (with_reducible refine gv_bin ?_)
  | (with_reducible refine gv_cmp ?_)
  | (with_reducible refine gt_cmp ?_)
  | (with_reducible refine gv_idx ?_)
  | (with_reducible refine gv_bi ?_)
  | (with_reducible refine gt_bi ?_)
  | (with_reducible refine gv_isi1 ?_)
  | (with_reducible refine gt_isi1 ?_)
  | (with_reducible refine gv_cal ?_)
  | (with_reducible refine gv_fld ?_)
  | ((with_reducible apply gl_fld); exact rfl)
  | (with_reducible refine gv_mcl ?_)
  | (with_reducible refine gt_mcl ?_)
  | (with_reducible refine ins_is ?_)
  | (with_reducible refine gv_mk ?_)
  | (with_reducible refine gt_cal ?_)
  | (with_reducible refine gv_tup ?_)
  | (with_reducible refine gv_lst ?_)
  | (with_reducible refine gv_slc ?_)
  | (with_reducible refine gv_slx ?_)
  | (with_reducible refine gv_not ?_)
  | (with_reducible refine gt_not ?_)
  | (with_reducible refine gv_neg ?_)
  | (with_reducible refine gv_and ?_)
  | (with_reducible refine gv_or ?_)
  | (with_reducible refine gt_and ?_)
  | (with_reducible refine gt_or ?_)
  | (with_reducible refine gv_emp ?_)
  | (with_reducible refine gv_cpr ?_)
  | (with_reducible refine gs_for ?_)
  | (with_reducible refine gi_seq ?_)
  | (with_reducible refine gi_rng1 ?_)
  | (with_reducible refine gi_zip ?_)
  | (with_reducible refine gi_enu ?_)
  | (with_reducible refine gi_rev ?_)
  | (with_reducible refine gs_augx ?_)
  | (with_reducible refine gs_par ?_)
  | ((with_reducible apply gs_aug); exact rfl)
  | (with_reducible refine gl_aadd ?_)
  | (with_reducible refine gl_asub ?_)
  | (with_reducible refine gc_non ?_)
  | (with_reducible refine gc_som ?_)
  | (with_reducible refine turnK_gv ?_)
  | (with_reducible refine turnL_gv ?_)
  | (with_reducible refine gf_nil ?_)
  | (with_reducible refine gf_cons ?_)
  | (with_reducible refine ga_nil ?_)
  | (with_reducible refine ga_cons ?_)
  | (with_reducible refine go_non ?_)
  | (with_reducible refine go_som ?_)
  | (with_reducible refine ex_int ?_)
  | (with_reducible refine ex_bl ?_)
  | (with_reducible refine it_ ?_)
  | (with_reducible refine if_ ?_)
  | (with_reducible refine nit_ ?_)
  | (with_reducible refine nif_ ?_)
  | ((with_reducible apply gl_look); exact rfl)
  | ((with_reducible apply gl_frz); exact rfl)
  | (with_reducible refine gl_add ?_)
  | (with_reducible refine gl_sub ?_)
  | (with_reducible refine gl_lt ?_)
  | (with_reducible refine gl_le ?_)
  | (with_reducible refine gl_gt ?_)
  | (with_reducible refine gl_ge ?_)
  | (with_reducible refine gl_eq ?_)
  | (with_reducible refine gl_ne ?_)
  | (with_reducible refine gl_eqs ?_)
  | (with_reducible refine gl_nes ?_)
  | (with_reducible refine gl_eqb ?_)
  | (with_reducible refine gl_neb ?_)
  | (with_reducible refine gl_mul (mulOk_s (small60 (by omega)) (small60 (by omega))) ?_)
  | ((with_reducible apply gl_pow); exact ⟨by decide, .inl ⟨by decide, by decide⟩⟩)
  | (with_reducible refine gl_mod (by omega) ?_)
  | (with_reducible refine gl_div (divOk_s (small60 (by omega)) (by omega)) ?_)
  | (with_reducible refine gl_len ?_)
  | (with_reducible refine gl_lenT ?_)
  | (with_reducible refine gl_abs ?_)
  | (with_reducible refine gs_whl ?_)
  | (with_reducible refine gl_sum ?_)
  | (with_reducible refine gl_sum2 ?_)
  | (with_reducible refine gl_all ?_)
  | (with_reducible refine gl_any ?_)
  | (with_reducible refine gs_ife ?_)
  | (with_reducible refine gv_ite ?_)
  | ((with_reducible apply gl_rest); exact rfl)
  | ((with_reducible apply gl_put); exact rfl)
  | ((with_reducible apply gl_acc); exact rfl)
  | (with_reducible refine gl_map1 rfl ?_)
  | (with_reducible refine gl_map2 rfl rfl ?_)
  | ((with_reducible apply gl_map); exact rfl)
  | ((with_reducible apply gl_tru); exact rfl)
  | ((with_reducible apply gl_walk); exact rfl)
  | ((with_reducible apply gl_items); exact rfl)
  | ((with_reducible apply gl_ty); exact rfl)
  | (with_reducible refine gl_slc1T ?_)
  | (with_reducible refine gl_slc1L ?_)
  | (with_reducible refine gl_slcTa ?_)
  | (with_reducible refine gl_slcTb ?_)
  | (with_reducible refine gl_slcLa ?_)
  | (with_reducible refine gl_slcLb ?_)
  | ((with_reducible apply gl_idxt); exact rfl)
  | ((with_reducible apply gl_idxl); exact rfl)
  | ((with_reducible apply gl_bi); exact rfl)
  | ((with_reducible apply gl_cop); exact rfl)
  | dsimp only [List.set_cons_succ, List.set_cons_zero, backs, Out.en, Rt.r, lend, back, restG, wipeG, Option.toList, List.nil_append, List.append_nil, List.cons_append, List.getElem?_cons_zero, List.getElem?_cons_succ, OD.d, Mi.isNon, List.map]
  try dsimp only [List.set_cons_succ, List.set_cons_zero, backs, Out.en, Rt.r, lend, back, restG, wipeG, Option.toList, List.nil_append, List.append_nil, List.cons_append, List.getElem?_cons_zero, List.getElem?_cons_succ, OD.d, Mi.isNon, List.map]))
set_option hygiene false in
local macro_rules | `(tactic| walk_at "take") => `(tactic| (
  refine take_c rfl rfl (by assumption) (by assumption) (by omega) (small60 (by omega)) (by omega) ?_
  intro r o ra rb hp
  dsimp only [List.set_cons_succ, List.set_cons_zero, backs, Out.en, Rt.r, lend, back, restG, wipeG, Option.toList, List.nil_append, List.append_nil, List.cons_append, List.getElem?_cons_zero, List.getElem?_cons_succ, OD.d, Mi.isNon, List.map]))

theorem isIn_ints (x : Int) : ∀ fs : List Int, isIn (.int x) (fs.map D.int) = fs.contains x
  | [] => rfl
  | f :: fs => by
    show (deq (.int f) (.int x) || isIn (.int x) (fs.map D.int)) = _
    rw [isIn_ints x fs, List.contains_cons, deq, Bool.beq_comm]
theorem altT_alone {ss : List Str} {r : Nat} (h : ss ≠ []) : ∃ t, altT ss r ss = some t := altT_some (.inl h)
theorem trmS {C : Mi.Ctx} (hI : IwS (C.ft 1)) (hR : RegS (C.ft 34)) (hA : AloS (C.ft 8)) : TrmS (runD C t9) := by
  intro ss nn top r hs hr
  refine gd_run rfl ?_
  show Gv (exs C b9 [.val (talkD ss nn top), .val (.lst [.int r]), .un, .un, .un]) _
  unfold b9
  have hm8 := pw3 hs
  repeat walk_at "w"
  refine for_list (fun (r : Nat) => D.int (r : Int)) (xs := [r]) (fun i Γ => ∃ x2, Γ = [.val (talkD ss nn top), .val (.lst [.int r]), x2, .un, .un]) ⟨_, rfl⟩ ?_ ?_
  · rintro i x Γ hx ⟨x2, rfl⟩
    have hx := List.mem_singleton.mp (List.mem_of_getElem? hx)
    subst hx
    refine turnL_gv ?_
    refine gl_put rfl ?_
    dsimp only [List.set_cons_succ, List.set_cons_zero]
    repeat walk_at "w"
    refine ins_is ?_
    repeat walk_at "w"
    refine callT_gv rfl rfl (gv_mono (hR ss nn top (by omega)) ?_)
    rintro _ rfl
    repeat walk_at "w"
    refine callT_gv rfl rfl (gv_mono (hI (.int x) (.int 0) (.int _) trivial (.inr ⟨_, rfl⟩) (.inr ⟨_, rfl⟩)) ?_)
    rintro _ rfl
    have e : whole3B (.int x) (.int 0) (.int ((2 ^ ss.length : Nat) - 1 : Int)) = true := by
      show (decide ((0 : Int) ≤ x) && decide ((x : Int) ≤ _)) = true
      generalize 2 ^ ss.length = m at *
      rw [decide_eq_true (by omega), decide_eq_true (by omega)]
      rfl
    rw [e]
    repeat walk_at "w"
    exact ⟨_, rfl⟩
  rintro Γ ⟨x2, rfl⟩
  repeat walk_at "w"
  refine ins_is ?_
  repeat walk_at "w"
  refine callT_gv rfl rfl (gv_mono (hR ss nn top (by omega)) ?_)
  rintro _ rfl
  generalize hm : 2 ^ ss.length = m at *
  repeat walk_at "w"
  refine rng_i (by omega) (by omega) ?_
  refine len_rng (by omega) ?_
  have e : rangeL 0 ((m : Nat) : Int).toNat 1 = (List.range m).map fun (r : Nat) => D.int (r : Int) := by
    unfold rangeL
    rw [Int.toNat_natCast]
    refine List.map_congr_left fun r _ => ?_
    rw [Int.zero_add, Int.mul_one]
  rw [e]
  refine cpr_filter _ (fun (r : Nat) => D.int (r : Int)) (fun (i : Nat) => [(r : Int)].contains (i : Int)) (fun i hi => ?_) ?_
  · repeat walk_at "w"
    rw [show isIn (D.int (i : Int)) [D.int (r : Int)] = [(r : Int)].contains (i : Int) from isIn_ints _ [(r : Int)]]
    cases [(r : Int)].contains (i : Int)
    all_goals
      repeat walk_at "w"
      try rfl
  rw [filter_one hr]
  repeat walk_at "w"
  refine ins_is ?_
  repeat walk_at "w"
  refine callT_gv rfl rfl (gv_mono (hR ss nn top (by omega)) ?_)
  rintro _ rfl
  rw [hm]
  repeat walk_at "w"
  rw [show isIn (D.int (([D.int (r : Int)].length : Nat) : Int)) [D.int 0, D.int (m : Int)] = [0, (m : Int)].contains 1 from isIn_ints 1 [0, (m : Int)]]
  cases ss with
  | nil =>
    have : m = 1 := hm.symm
    subst this
    refine if_b (fun _ => ?_) (fun h => absurd h (by decide))
    repeat walk_at "w"
    exact gv_is rfl (gv_is rfl rfl)
  | cons s l =>
    have h2 : 2 ≤ m := by
      rw [← hm, List.length_cons, Nat.pow_succ]
      have : 1 ≤ 2 ^ l.length := Nat.one_le_two_pow
      omega
    have hc : [0, (m : Int)].contains 1 = false := by
      have : ((1 : Int) == (m : Int)) = false := by simp; omega
      simp [List.contains_cons, this]
      omega
    rw [hc]
    obtain ⟨t, ht⟩ := altT_alone (ss := s :: l) (r := r) (by simp)
    have hreg : regT (s :: l) r = t := by
      unfold regT
      rw [ht]
      rfl
    rw [hreg]
    repeat walk_at "w"
    refine callT_gv rfl rfl (gv_mono (hA (s :: l) nn top r hs (by rw [hm]; exact hr)) ?_)
    rintro _ rfl
    rw [ht]
    dsimp only [oD]
    repeat walk_at "w"
    refine forL_gv (fun i Γ => Γ = _) rfl (fun i d Γ hi _ => by simp at hi) ?_
    rintro Γ rfl
    repeat walk_at "w"
    exact gv_is rfl rfl

end Lk12

namespace Lk12
open Mi PySem L2
local macro_rules | `(tactic| walk_at "s") => `(tactic| (
  first
  | (with_reducible refine gs_cons ?_)
  | (with_reducible refine gs_asg ?_)
  | (with_reducible refine gs_ret ?_)
  | (with_reducible refine gs_exp ?_)
  | (with_reducible refine gs_setx ?_)
  | (with_reducible refine gs_nil ?_)
  | (with_reducible refine gv_con ?_)
  | ((with_reducible apply gv_var); exact rfl)
  | (with_reducible refine gv_bin ?_)
  | (with_reducible refine gv_cmp ?_)
  | (with_reducible refine gt_cmp ?_)
  | (with_reducible refine gv_idx ?_)
  | (with_reducible refine gv_bi ?_)
  | (with_reducible refine gt_bi ?_)
  | (with_reducible refine gv_cal ?_)
  | (with_reducible refine gv_tup ?_)
  | (with_reducible refine gv_lst ?_)
  | (with_reducible refine gv_slc ?_)
  | (with_reducible refine gv_not ?_)
  | (with_reducible refine gt_not ?_)
  | (with_reducible refine gf_nil ?_)
  | (with_reducible refine gf_cons ?_)
  | (with_reducible refine ga_nil ?_)
  | (with_reducible refine ga_cons ?_)
  | (with_reducible refine go_non ?_)
  | ((with_reducible apply gl_look); exact rfl)
  | ((with_reducible apply gl_frz); exact rfl)
  | (with_reducible refine gl_add ?_)
  | (with_reducible refine gl_sub ?_)
  | (with_reducible refine gl_lt ?_)
  | (with_reducible refine gl_le ?_)
  | (with_reducible refine gl_gt ?_)
  | (with_reducible refine gl_ge ?_)
  | (with_reducible refine gl_eq ?_)
  | (with_reducible refine gl_ne ?_)
  | (with_reducible refine gs_ife ?_)
  | (with_reducible refine gv_ite ?_)
  | ((with_reducible apply gl_rest); exact rfl)
  | ((with_reducible apply gl_put); exact rfl)
  | ((with_reducible apply gl_acc); exact rfl)
  | ((with_reducible apply gl_map); exact rfl)
  | ((with_reducible apply gl_tru); exact rfl)
  try dsimp only [List.set_cons_succ, List.set_cons_zero]))
local macro_rules | `(tactic| walk_at "w") => `(tactic| (
  first
  | (with_reducible refine gs_cons ?_)
  | (with_reducible refine gs_asg ?_)
  | (with_reducible refine gs_ret ?_)
  | (with_reducible refine gs_exp ?_)
  | (with_reducible refine gs_setx ?_)
  | (with_reducible refine gs_nil ?_)
  | (with_reducible refine gv_con ?_)
  | ((with_reducible apply gv_var); exact rfl)
  | ((with_reducible apply gt_var); exact rfl)
  | (with_reducible refine gv_bin ?_)
  | (with_reducible refine gv_cmp ?_)
  | (with_reducible refine gt_cmp ?_)
  | (with_reducible refine gv_idx ?_)
  | (with_reducible refine gv_bi ?_)
  | (with_reducible refine gt_bi ?_)
  | (with_reducible refine gv_isi1 ?_)
  | (with_reducible refine gt_isi1 ?_)
  | (with_reducible refine gv_cal ?_)
  | (with_reducible refine gv_fld ?_)
  | ((with_reducible apply gl_fld); exact rfl)
  | (with_reducible refine gv_mcl ?_)
  | (with_reducible refine gt_mcl ?_)
  | (with_reducible refine ins_is ?_)
  | (with_reducible refine gv_mk ?_)
  | (with_reducible refine gt_cal ?_)
  | (with_reducible refine gv_tup ?_)
  | (with_reducible refine gv_lst ?_)
  | (with_reducible refine gv_slc ?_)
  | (with_reducible refine gv_slx ?_)
  | (with_reducible refine gv_not ?_)
  | (with_reducible refine gt_not ?_)
  | (with_reducible refine gv_neg ?_)
  | (with_reducible refine gv_and ?_)
  | (with_reducible refine gv_or ?_)
  | (with_reducible refine gt_and ?_)
  | (with_reducible refine gt_or ?_)
  | (with_reducible refine gv_emp ?_)
  | (with_reducible refine gv_cpr ?_)
  | (with_reducible refine gs_for ?_)
  | (with_reducible refine gi_seq ?_)
  | (with_reducible refine gi_rng1 ?_)
  | (with_reducible refine gi_zip ?_)
  | (with_reducible refine gi_enu ?_)
  | (with_reducible refine gi_rev ?_)
  | (with_reducible refine gs_augx ?_)
  | (with_reducible refine gs_par ?_)
  | ((with_reducible apply gs_aug); exact rfl)
  | (with_reducible refine gl_aadd ?_)
  | (with_reducible refine gl_asub ?_)
  | (with_reducible refine gc_non ?_)
  | (with_reducible refine gc_som ?_)
  | (with_reducible refine turnK_gv ?_)
  | (with_reducible refine turnL_gv ?_)
  | (with_reducible refine gf_nil ?_)
  | (with_reducible refine gf_cons ?_)
  | (with_reducible refine ga_nil ?_)
  | (with_reducible refine ga_cons ?_)
  | (with_reducible refine go_non ?_)
  | (with_reducible refine go_som ?_)
  | (with_reducible refine ex_int ?_)
  | (with_reducible refine ex_bl ?_)
  | (with_reducible refine it_ ?_)
  | (with_reducible refine if_ ?_)
  | (with_reducible refine nit_ ?_)
  | (with_reducible refine nif_ ?_)
  | ((with_reducible apply gl_look); exact rfl)
  | ((with_reducible apply gl_frz); exact rfl)
  | (with_reducible refine gl_add ?_)
  | (with_reducible refine gl_sub ?_)
  | (with_reducible refine gl_lt ?_)
  | (with_reducible refine gl_le ?_)
  | (with_reducible refine gl_gt ?_)
  | (with_reducible refine gl_ge ?_)
  | (with_reducible refine gl_eq ?_)
  | (with_reducible refine gl_ne ?_)
  | (with_reducible refine gl_eqs ?_)
  | (with_reducible refine gl_nes ?_)
  | (with_reducible refine gl_eqb ?_)
  | (with_reducible refine gl_neb ?_)
  | (with_reducible refine gl_mul (mulOk_s (small60 (by omega)) (small60 (by omega))) ?_)
  | ((with_reducible apply gl_pow); exact ⟨by decide, .inl ⟨by decide, by decide⟩⟩)
  | (with_reducible refine gl_mod (by omega) ?_)
  | (with_reducible refine gl_div (divOk_s (small60 (by omega)) (by omega)) ?_)
  | (with_reducible refine gl_len ?_)
  | (with_reducible refine gl_lenT ?_)
  | (with_reducible refine gl_abs ?_)
  | (with_reducible refine gs_whl ?_)
  | (with_reducible refine gl_sum ?_)
  | (with_reducible refine gl_sum2 ?_)
  | (with_reducible refine gl_all ?_)
  | (with_reducible refine gl_any ?_)
  | (with_reducible refine gs_ife ?_)
  | (with_reducible refine gv_ite ?_)
  | ((with_reducible apply gl_rest); exact rfl)
  | ((with_reducible apply gl_put); exact rfl)
  | ((with_reducible apply gl_acc); exact rfl)
  | (with_reducible refine gl_map1 rfl ?_)
  | (with_reducible refine gl_map2 rfl rfl ?_)
  | ((with_reducible apply gl_map); exact rfl)
  | ((with_reducible apply gl_tru); exact rfl)
  | ((with_reducible apply gl_walk); exact rfl)
  | ((with_reducible apply gl_items); exact rfl)
  | ((with_reducible apply gl_ty); exact rfl)
  | (with_reducible refine gl_slc1T ?_)
  | (with_reducible refine gl_slc1L ?_)
  | (with_reducible refine gl_slcTa ?_)
  | (with_reducible refine gl_slcTb ?_)
  | (with_reducible refine gl_slcLa ?_)
  | (with_reducible refine gl_slcLb ?_)
  | ((with_reducible apply gl_idxt); exact rfl)
  | ((with_reducible apply gl_idxl); exact rfl)
  | ((with_reducible apply gl_bi); exact rfl)
  | ((with_reducible apply gl_cop); exact rfl)
  | dsimp only [List.set_cons_succ, List.set_cons_zero, backs, Out.en, Rt.r, lend, back, restG, wipeG, Option.toList, List.nil_append, List.append_nil, List.cons_append, List.getElem?_cons_zero, List.getElem?_cons_succ, OD.d, Mi.isNon, List.map]
  try dsimp only [List.set_cons_succ, List.set_cons_zero, backs, Out.en, Rt.r, lend, back, restG, wipeG, Option.toList, List.nil_append, List.append_nil, List.cons_append, List.getElem?_cons_zero, List.getElem?_cons_succ, OD.d, Mi.isNon, List.map]))
set_option hygiene false in
local macro_rules | `(tactic| walk_at "take") => `(tactic| (
  refine take_c rfl rfl (by assumption) (by assumption) (by omega) (small60 (by omega)) (by omega) ?_
  intro r o ra rb hp
  dsimp only [List.set_cons_succ, List.set_cons_zero, backs, Out.en, Rt.r, lend, back, restG, wipeG, Option.toList, List.nil_append, List.append_nil, List.cons_append, List.getElem?_cons_zero, List.getElem?_cons_succ, OD.d, Mi.isNon, List.map]))

/-! ### what the term of one region says -/
theorem side_ok {ss : List Str} {r : Nat} {s : Str} (h : s ∈ ss) : (sideT ss r s).ok ss := by
  unfold sideT
  split <;> exact h
theorem side_dep {ss : List Str} {r : Nat} {s : Str} : (sideT ss r s).dep ≤ 2 := by
  unfold sideT
  split
  · show 1 ≤ 2; decide
  · show 1 + 1 ≤ 2; decide
theorem side_ev {ss : List Str} {r : Nat} {s : Str} {f : Str → Bool} : (sideT ss r s).ev f = (f s == lieV ss r s) := by
  unfold sideT
  cases h : lieV ss r s
  · rw [if_neg (by decide)]
    show (!f s) = (f s == false)
    cases f s <;> rfl
  · rw [if_pos rfl]
    show f s = (f s == true)
    cases f s <;> rfl
theorem alt_ok {ss : List Str} {r : Nat} : ∀ {l : List Str} {o : Option Tm}, (∀ s ∈ l, s ∈ ss) → (∀ t, o = some t → t.ok ss) → ∀ t, l.foldl (altF ss r) o = some t → t.ok ss
  | [], o, _, ho, t, h => ho t h
  | s :: l, o, hl, ho, t, h => by
    refine alt_ok (l := l) (o := altF ss r o s) (fun x hx => hl x (List.mem_cons_of_mem _ hx)) (fun u hu => ?_) t h
    have hs := hl s List.mem_cons_self
    cases o with
    | none => cases hu; exact side_ok hs
    | some v => cases hu; exact ⟨ho v rfl, side_ok hs⟩
theorem alt_dep {ss : List Str} {r n : Nat} (hn : 2 ≤ n) : ∀ {l : List Str} {v : Tm}, v.dep ≤ n → ∀ t, l.foldl (altF ss r) (some v) = some t → t.dep ≤ n + l.length
  | [], v, hv, t, h => by cases h; exact hv
  | s :: l, v, hv, t, h => by
    have hd : (Tm.and v (sideT ss r s)).dep ≤ n + 1 := by
      have := side_dep (ss := ss) (r := r) (s := s)
      show max v.dep (sideT ss r s).dep + 1 ≤ n + 1
      omega
    have := alt_dep (n := n + 1) (by omega) (l := l) hd t h
    rw [List.length_cons]
    omega
theorem alt_ev {ss : List Str} {r : Nat} {f : Str → Bool} : ∀ {l : List Str} {v : Tm}, ∀ t, l.foldl (altF ss r) (some v) = some t → t.ev f = (v.ev f && l.all fun s => f s == lieV ss r s)
  | [], v, t, h => by cases h; simp
  | s :: l, v, t, h => by
    rw [alt_ev (l := l) t h, List.all_cons, ← Bool.and_assoc]
    congr 1
    show (v.ev f && (sideT ss r s).ev f) = _
    rw [side_ev]
theorem regT_ok {ss : List Str} {r : Nat} : (regT ss r).ok ss := by
  unfold regT
  split
  · rename_i t h
    split
    · exact True.intro
    · exact alt_ok (fun _ h => h) (fun _ h => by cases h) t h
  · exact True.intro
theorem regT_dep {ss : List Str} {r : Nat} (hs : ss.length ≤ 3) : (regT ss r).dep ≤ 4 := by
  unfold regT
  split
  · rename_i t h
    split
    · show 1 ≤ 4; decide
    · cases ss with
      | nil => cases h
      | cons s l =>
        have := alt_dep (n := 2) (by decide) (l := l) (v := sideT (s :: l) r s) side_dep t h
        rw [List.length_cons] at hs
        omega
  · show 1 ≤ 4; decide
theorem lie_at {ss : List Str} (hn : ss.Nodup) {i k : Nat} (hk : k < ss.length) : lieV ss i ss[k] = ((i / 2 ^ k) % 2 == 1) := by
  have h : ss[k]? = some ss[k] := List.getElem?_eq_getElem hk
  have hnt : ss[k] ∉ ss.take k := fun hm => by
    obtain ⟨j, hj, e⟩ := List.mem_take_iff_getElem.mp hm
    have := (List.getElem_inj hn).mp e
    omega
  unfold lieV
  rw [idx_at h hnt]
theorem regT_ev {ss : List Str} (hn : ss.Nodup) {i r : Nat} (hi : i < 2 ^ ss.length) (hr : r < 2 ^ ss.length) : (regT ss r).ev (lieV ss i) = (i == r) := by
  have hall : (ss.all fun s => lieV ss i s == lieV ss r s) = (i == r) := by
    by_cases e : i = r
    · subst e; simp
    · rw [show (i == r) = false from by simpa using e, Bool.eq_false_iff]
      intro h
      refine e (Nat.eq_of_testBit_eq fun k => ?_)
      by_cases hk : k < ss.length
      · have := List.all_eq_true.mp h ss[k] (List.getElem_mem hk)
        rw [lie_at hn hk, lie_at hn hk] at this
        have this := eq_of_beq this
        rw [Nat.testBit_eq_decide_div_mod_eq, Nat.testBit_eq_decide_div_mod_eq]
        rw [Bool.eq_iff_iff] at this
        simpa using this
      · have hp : 2 ^ ss.length ≤ 2 ^ k := Nat.pow_le_pow_right (by decide) (by omega)
        rw [Nat.testBit_lt_two_pow (by omega), Nat.testBit_lt_two_pow (by omega)]
  unfold regT
  cases ss with
  | nil =>
    have h1 : i < 1 := hi
    have h2 : r < 1 := hr
    show true = _
    rw [show i = r by omega]
    simp
  | cons s l =>
    obtain ⟨t, ht⟩ := altT_alone (ss := s :: l) (r := r) (by simp)
    rw [ht]
    show t.ev _ = _
    have := alt_ev (f := lieV (s :: l) i) (l := l) (v := sideT (s :: l) r s) t ht
    rw [this, side_ev, ← hall, List.all_cons]

end Lk12

namespace Lk12
open Mi PySem L2
local macro_rules | `(tactic| walk_at "s") => `(tactic| (
  first
  | (with_reducible refine gs_cons ?_)
  | (with_reducible refine gs_asg ?_)
  | (with_reducible refine gs_ret ?_)
  | (with_reducible refine gs_exp ?_)
  | (with_reducible refine gs_setx ?_)
  | (with_reducible refine gs_nil ?_)
  | (with_reducible refine gv_con ?_)
  | ((with_reducible apply gv_var); exact rfl)
  | (with_reducible refine gv_bin ?_)
  | (with_reducible refine gv_cmp ?_)
  | (with_reducible refine gt_cmp ?_)
  | (with_reducible refine gv_idx ?_)
  | (with_reducible refine gv_bi ?_)
  | (with_reducible refine gt_bi ?_)
  | (with_reducible refine gv_cal ?_)
  | (with_reducible refine gv_tup ?_)
  | (with_reducible refine gv_lst ?_)
  | (with_reducible refine gv_slc ?_)
  | (with_reducible refine gv_not ?_)
  | (with_reducible refine gt_not ?_)
  | (with_reducible refine gf_nil ?_)
  | (with_reducible refine gf_cons ?_)
  | (with_reducible refine ga_nil ?_)
  | (with_reducible refine ga_cons ?_)
  | (with_reducible refine go_non ?_)
  | ((with_reducible apply gl_look); exact rfl)
  | ((with_reducible apply gl_frz); exact rfl)
  | (with_reducible refine gl_add ?_)
  | (with_reducible refine gl_sub ?_)
  | (with_reducible refine gl_lt ?_)
  | (with_reducible refine gl_le ?_)
  | (with_reducible refine gl_gt ?_)
  | (with_reducible refine gl_ge ?_)
  | (with_reducible refine gl_eq ?_)
  | (with_reducible refine gl_ne ?_)
  | (with_reducible refine gs_ife ?_)
  | (with_reducible refine gv_ite ?_)
  | ((with_reducible apply gl_rest); exact rfl)
  | ((with_reducible apply gl_put); exact rfl)
  | ((with_reducible apply gl_acc); exact rfl)
  | ((with_reducible apply gl_map); exact rfl)
  | ((with_reducible apply gl_tru); exact rfl)
  try dsimp only [List.set_cons_succ, List.set_cons_zero]))
local macro_rules | `(tactic| walk_at "w") => `(tactic| (
  first
  | (with_reducible refine gs_cons ?_)
  | (with_reducible refine gs_asg ?_)
  | (with_reducible refine gs_ret ?_)
  | (with_reducible refine gs_exp ?_)
  | (with_reducible refine gs_setx ?_)
  | (with_reducible refine gs_nil ?_)
  | (with_reducible refine gv_con ?_)
  | ((with_reducible apply gv_var); exact rfl)
  | ((with_reducible apply gt_var); exact rfl)
  | (with_reducible refine gv_bin ?_)
  | (with_reducible refine gv_cmp ?_)
  | (with_reducible refine gt_cmp ?_)
  | (with_reducible refine gv_idx ?_)
  | (with_reducible refine gv_bi ?_)
  | (with_reducible refine gt_bi ?_)
  | (with_reducible refine gv_isi1 ?_)
  | (with_reducible refine gt_isi1 ?_)
  | (with_reducible refine gv_cal ?_)
  | (with_reducible refine gv_fld ?_)
  | ((with_reducible apply gl_fld); exact rfl)
  | (with_reducible refine gv_mcl ?_)
  | (with_reducible refine gt_mcl ?_)
  | (with_reducible refine ins_is ?_)
  | (with_reducible refine gv_mk ?_)
  | (with_reducible refine gt_cal ?_)
  | (with_reducible refine gv_tup ?_)
  | (with_reducible refine gv_lst ?_)
  | (with_reducible refine gv_slc ?_)
  | (with_reducible refine gv_slx ?_)
  | (with_reducible refine gv_not ?_)
  | (with_reducible refine gt_not ?_)
  | (with_reducible refine gv_neg ?_)
  | (with_reducible refine gv_and ?_)
  | (with_reducible refine gv_or ?_)
  | (with_reducible refine gt_and ?_)
  | (with_reducible refine gt_or ?_)
  | (with_reducible refine gv_emp ?_)
  | (with_reducible refine gv_cpr ?_)
  | (with_reducible refine gs_for ?_)
  | (with_reducible refine gi_seq ?_)
  | (with_reducible refine gi_rng1 ?_)
  | (with_reducible refine gi_zip ?_)
  | (with_reducible refine gi_enu ?_)
  | (with_reducible refine gi_rev ?_)
  | (with_reducible refine gs_augx ?_)
  | (with_reducible refine gs_par ?_)
  | ((with_reducible apply gs_aug); exact rfl)
  | (with_reducible refine gl_aadd ?_)
  | (with_reducible refine gl_asub ?_)
  | (with_reducible refine gc_non ?_)
  | (with_reducible refine gc_som ?_)
  | (with_reducible refine turnK_gv ?_)
  | (with_reducible refine turnL_gv ?_)
  | (with_reducible refine gf_nil ?_)
  | (with_reducible refine gf_cons ?_)
  | (with_reducible refine ga_nil ?_)
  | (with_reducible refine ga_cons ?_)
  | (with_reducible refine go_non ?_)
  | (with_reducible refine go_som ?_)
  | (with_reducible refine ex_int ?_)
  | (with_reducible refine ex_bl ?_)
  | (with_reducible refine it_ ?_)
  | (with_reducible refine if_ ?_)
  | (with_reducible refine nit_ ?_)
  | (with_reducible refine nif_ ?_)
  | ((with_reducible apply gl_look); exact rfl)
  | ((with_reducible apply gl_frz); exact rfl)
  | (with_reducible refine gl_add ?_)
  | (with_reducible refine gl_sub ?_)
  | (with_reducible refine gl_lt ?_)
  | (with_reducible refine gl_le ?_)
  | (with_reducible refine gl_gt ?_)
  | (with_reducible refine gl_ge ?_)
  | (with_reducible refine gl_eq ?_)
  | (with_reducible refine gl_ne ?_)
  | (with_reducible refine gl_eqs ?_)
  | (with_reducible refine gl_nes ?_)
  | (with_reducible refine gl_eqb ?_)
  | (with_reducible refine gl_neb ?_)
  | (with_reducible refine gl_mul (mulOk_s (small60 (by omega)) (small60 (by omega))) ?_)
  | ((with_reducible apply gl_pow); exact ⟨by decide, .inl ⟨by decide, by decide⟩⟩)
  | (with_reducible refine gl_mod (by omega) ?_)
  | (with_reducible refine gl_div (divOk_s (small60 (by omega)) (by omega)) ?_)
  | (with_reducible refine gl_len ?_)
  | (with_reducible refine gl_lenT ?_)
  | (with_reducible refine gl_abs ?_)
  | (with_reducible refine gs_whl ?_)
  | (with_reducible refine gl_sum ?_)
  | (with_reducible refine gl_sum2 ?_)
  | (with_reducible refine gl_all ?_)
  | (with_reducible refine gl_any ?_)
  | (with_reducible refine gs_ife ?_)
  | (with_reducible refine gv_ite ?_)
  | ((with_reducible apply gl_rest); exact rfl)
  | ((with_reducible apply gl_put); exact rfl)
  | ((with_reducible apply gl_acc); exact rfl)
  | (with_reducible refine gl_map1 rfl ?_)
  | (with_reducible refine gl_map2 rfl rfl ?_)
  | ((with_reducible apply gl_map); exact rfl)
  | ((with_reducible apply gl_tru); exact rfl)
  | ((with_reducible apply gl_walk); exact rfl)
  | ((with_reducible apply gl_items); exact rfl)
  | ((with_reducible apply gl_ty); exact rfl)
  | (with_reducible refine gl_slc1T ?_)
  | (with_reducible refine gl_slc1L ?_)
  | (with_reducible refine gl_slcTa ?_)
  | (with_reducible refine gl_slcTb ?_)
  | (with_reducible refine gl_slcLa ?_)
  | (with_reducible refine gl_slcLb ?_)
  | ((with_reducible apply gl_idxt); exact rfl)
  | ((with_reducible apply gl_idxl); exact rfl)
  | ((with_reducible apply gl_bi); exact rfl)
  | ((with_reducible apply gl_cop); exact rfl)
  | dsimp only [List.set_cons_succ, List.set_cons_zero, backs, Out.en, Rt.r, lend, back, restG, wipeG, Option.toList, List.nil_append, List.append_nil, List.cons_append, List.getElem?_cons_zero, List.getElem?_cons_succ, OD.d, Mi.isNon, List.map]
  try dsimp only [List.set_cons_succ, List.set_cons_zero, backs, Out.en, Rt.r, lend, back, restG, wipeG, Option.toList, List.nil_append, List.append_nil, List.cons_append, List.getElem?_cons_zero, List.getElem?_cons_succ, OD.d, Mi.isNon, List.map]))
set_option hygiene false in
local macro_rules | `(tactic| walk_at "take") => `(tactic| (
  refine take_c rfl rfl (by assumption) (by assumption) (by omega) (small60 (by omega)) (by omega) ?_
  intro r o ra rb hp
  dsimp only [List.set_cons_succ, List.set_cons_zero, backs, Out.en, Rt.r, lend, back, restG, wipeG, Option.toList, List.nil_append, List.append_nil, List.cons_append, List.getElem?_cons_zero, List.getElem?_cons_succ, OD.d, Mi.isNon, List.map]))

/-! ### the sum of a row -/
def Ad.coef : Ad → Int
  | .lot c => c
  | .num c _ => c
  | .size c _ => c
theorem at_zero {ss nn : List Str} {i : Nat} {a : Ad} (h : a.coef = 0) : a.at ss nn i = 0 := by
  cases a with
  | lot c => have h : c = 0 := h; subst h; show (if _ then (0 : Int) else 0) = 0; split <;> rfl
  | num c s => have h : c = 0 := h; subst h; show (if _ then (0 : Int) else 0) = 0; split <;> rfl
  | size c t => have h : c = 0 := h; subst h; show (if _ then (0 : Int) else 0) = 0; split <;> rfl
theorem drop_zero {ss nn : List Str} {i : Nat} : ∀ as : List Ad, ((as.filter fun a => a.coef != 0).map (Ad.at ss nn i)).sum = (as.map (Ad.at ss nn i)).sum
  | [] => rfl
  | a :: as => by
    rw [List.filter_cons, List.map_cons, List.sum_cons]
    by_cases h : a.coef = 0
    · rw [if_neg (by simp [h]), drop_zero as, at_zero h, Int.zero_add]
    · rw [if_pos (by simp [h]), List.map_cons, List.sum_cons, drop_zero as]
def sumAll (ss nn : List Str) (c : Int) (cs : List Int) : List Ad := (.lot c :: (cs.take (2 ^ ss.length)).zipIdx.map fun p => .size p.1 (regT ss p.2)) ++ (nn.zip (cs.drop (2 ^ ss.length))).map fun p => .num p.2 p.1
def sumV (ss nn : List Str) (c : Int) (cs : List Int) : List Ad := (sumAll ss nn c cs).filter fun a => a.coef != 0
theorem rowV_drop {ss nn : List Str} {c : Int} {cs : List Int} : rowV ss nn (sumV ss nn c cs) = rowV ss nn (sumAll ss nn c cs) := rowF_ext fun _ _ => drop_zero _

end Lk12

namespace Lk12
open Mi PySem L2
local macro_rules | `(tactic| walk_at "s") => `(tactic| (
  first
  | (with_reducible refine gs_cons ?_)
  | (with_reducible refine gs_asg ?_)
  | (with_reducible refine gs_ret ?_)
  | (with_reducible refine gs_exp ?_)
  | (with_reducible refine gs_setx ?_)
  | (with_reducible refine gs_nil ?_)
  | (with_reducible refine gv_con ?_)
  | ((with_reducible apply gv_var); exact rfl)
  | (with_reducible refine gv_bin ?_)
  | (with_reducible refine gv_cmp ?_)
  | (with_reducible refine gt_cmp ?_)
  | (with_reducible refine gv_idx ?_)
  | (with_reducible refine gv_bi ?_)
  | (with_reducible refine gt_bi ?_)
  | (with_reducible refine gv_cal ?_)
  | (with_reducible refine gv_tup ?_)
  | (with_reducible refine gv_lst ?_)
  | (with_reducible refine gv_slc ?_)
  | (with_reducible refine gv_not ?_)
  | (with_reducible refine gt_not ?_)
  | (with_reducible refine gf_nil ?_)
  | (with_reducible refine gf_cons ?_)
  | (with_reducible refine ga_nil ?_)
  | (with_reducible refine ga_cons ?_)
  | (with_reducible refine go_non ?_)
  | ((with_reducible apply gl_look); exact rfl)
  | ((with_reducible apply gl_frz); exact rfl)
  | (with_reducible refine gl_add ?_)
  | (with_reducible refine gl_sub ?_)
  | (with_reducible refine gl_lt ?_)
  | (with_reducible refine gl_le ?_)
  | (with_reducible refine gl_gt ?_)
  | (with_reducible refine gl_ge ?_)
  | (with_reducible refine gl_eq ?_)
  | (with_reducible refine gl_ne ?_)
  | (with_reducible refine gs_ife ?_)
  | (with_reducible refine gv_ite ?_)
  | ((with_reducible apply gl_rest); exact rfl)
  | ((with_reducible apply gl_put); exact rfl)
  | ((with_reducible apply gl_acc); exact rfl)
  | ((with_reducible apply gl_map); exact rfl)
  | ((with_reducible apply gl_tru); exact rfl)
  try dsimp only [List.set_cons_succ, List.set_cons_zero]))
local macro_rules | `(tactic| walk_at "w") => `(tactic| (
  first
  | (with_reducible refine gs_cons ?_)
  | (with_reducible refine gs_asg ?_)
  | (with_reducible refine gs_ret ?_)
  | (with_reducible refine gs_exp ?_)
  | (with_reducible refine gs_setx ?_)
  | (with_reducible refine gs_nil ?_)
  | (with_reducible refine gv_con ?_)
  | ((with_reducible apply gv_var); exact rfl)
  | ((with_reducible apply gt_var); exact rfl)
  | (with_reducible refine gv_bin ?_)
  | (with_reducible refine gv_cmp ?_)
  | (with_reducible refine gt_cmp ?_)
  | (with_reducible refine gv_idx ?_)
  | (with_reducible refine gv_bi ?_)
  | (with_reducible refine gt_bi ?_)
  | (with_reducible refine gv_isi1 ?_)
  | (with_reducible refine gt_isi1 ?_)
  | (with_reducible refine gv_cal ?_)
  | (with_reducible refine gv_fld ?_)
  | ((with_reducible apply gl_fld); exact rfl)
  | (with_reducible refine gv_mcl ?_)
  | (with_reducible refine gt_mcl ?_)
  | (with_reducible refine ins_is ?_)
  | (with_reducible refine gv_mk ?_)
  | (with_reducible refine gt_cal ?_)
  | (with_reducible refine gv_tup ?_)
  | (with_reducible refine gv_lst ?_)
  | (with_reducible refine gv_slc ?_)
  | (with_reducible refine gv_slx ?_)
  | (with_reducible refine gv_not ?_)
  | (with_reducible refine gt_not ?_)
  | (with_reducible refine gv_neg ?_)
  | (with_reducible refine gv_and ?_)
  | (with_reducible refine gv_or ?_)
  | (with_reducible refine gt_and ?_)
  | (with_reducible refine gt_or ?_)
  | (with_reducible refine gv_emp ?_)
  | (with_reducible refine gv_cpr ?_)
  | (with_reducible refine gs_for ?_)
  | (with_reducible refine gi_seq ?_)
  | (with_reducible refine gi_rng1 ?_)
  | (with_reducible refine gi_zip ?_)
  | (with_reducible refine gi_enu ?_)
  | (with_reducible refine gi_rev ?_)
  | (with_reducible refine gs_augx ?_)
  | (with_reducible refine gs_par ?_)
  | ((with_reducible apply gs_aug); exact rfl)
  | (with_reducible refine gl_aadd ?_)
  | (with_reducible refine gl_asub ?_)
  | (with_reducible refine gc_non ?_)
  | (with_reducible refine gc_som ?_)
  | (with_reducible refine turnK_gv ?_)
  | (with_reducible refine turnL_gv ?_)
  | (with_reducible refine gf_nil ?_)
  | (with_reducible refine gf_cons ?_)
  | (with_reducible refine ga_nil ?_)
  | (with_reducible refine ga_cons ?_)
  | (with_reducible refine go_non ?_)
  | (with_reducible refine go_som ?_)
  | (with_reducible refine ex_int ?_)
  | (with_reducible refine ex_bl ?_)
  | (with_reducible refine it_ ?_)
  | (with_reducible refine if_ ?_)
  | (with_reducible refine nit_ ?_)
  | (with_reducible refine nif_ ?_)
  | ((with_reducible apply gl_look); exact rfl)
  | ((with_reducible apply gl_frz); exact rfl)
  | (with_reducible refine gl_add ?_)
  | (with_reducible refine gl_sub ?_)
  | (with_reducible refine gl_lt ?_)
  | (with_reducible refine gl_le ?_)
  | (with_reducible refine gl_gt ?_)
  | (with_reducible refine gl_ge ?_)
  | (with_reducible refine gl_eq ?_)
  | (with_reducible refine gl_ne ?_)
  | (with_reducible refine gl_eqs ?_)
  | (with_reducible refine gl_nes ?_)
  | (with_reducible refine gl_eqb ?_)
  | (with_reducible refine gl_neb ?_)
  | (with_reducible refine gl_mul (mulOk_s (small60 (by omega)) (small60 (by omega))) ?_)
  | ((with_reducible apply gl_pow); exact ⟨by decide, .inl ⟨by decide, by decide⟩⟩)
  | (with_reducible refine gl_mod (by omega) ?_)
  | (with_reducible refine gl_div (divOk_s (small60 (by omega)) (by omega)) ?_)
  | (with_reducible refine gl_len ?_)
  | (with_reducible refine gl_lenT ?_)
  | (with_reducible refine gl_abs ?_)
  | (with_reducible refine gs_whl ?_)
  | (with_reducible refine gl_sum ?_)
  | (with_reducible refine gl_sum2 ?_)
  | (with_reducible refine gl_all ?_)
  | (with_reducible refine gl_any ?_)
  | (with_reducible refine gs_ife ?_)
  | (with_reducible refine gv_ite ?_)
  | ((with_reducible apply gl_rest); exact rfl)
  | ((with_reducible apply gl_put); exact rfl)
  | ((with_reducible apply gl_acc); exact rfl)
  | (with_reducible refine gl_map1 rfl ?_)
  | (with_reducible refine gl_map2 rfl rfl ?_)
  | ((with_reducible apply gl_map); exact rfl)
  | ((with_reducible apply gl_tru); exact rfl)
  | ((with_reducible apply gl_walk); exact rfl)
  | ((with_reducible apply gl_items); exact rfl)
  | ((with_reducible apply gl_ty); exact rfl)
  | (with_reducible refine gl_slc1T ?_)
  | (with_reducible refine gl_slc1L ?_)
  | (with_reducible refine gl_slcTa ?_)
  | (with_reducible refine gl_slcTb ?_)
  | (with_reducible refine gl_slcLa ?_)
  | (with_reducible refine gl_slcLb ?_)
  | ((with_reducible apply gl_idxt); exact rfl)
  | ((with_reducible apply gl_idxl); exact rfl)
  | ((with_reducible apply gl_bi); exact rfl)
  | ((with_reducible apply gl_cop); exact rfl)
  | dsimp only [List.set_cons_succ, List.set_cons_zero, backs, Out.en, Rt.r, lend, back, restG, wipeG, Option.toList, List.nil_append, List.append_nil, List.cons_append, List.getElem?_cons_zero, List.getElem?_cons_succ, OD.d, Mi.isNon, List.map]
  try dsimp only [List.set_cons_succ, List.set_cons_zero, backs, Out.en, Rt.r, lend, back, restG, wipeG, Option.toList, List.nil_append, List.append_nil, List.cons_append, List.getElem?_cons_zero, List.getElem?_cons_succ, OD.d, Mi.isNon, List.map]))
set_option hygiene false in
local macro_rules | `(tactic| walk_at "take") => `(tactic| (
  refine take_c rfl rfl (by assumption) (by assumption) (by omega) (small60 (by omega)) (by omega) ?_
  intro r o ra rb hp
  dsimp only [List.set_cons_succ, List.set_cons_zero, backs, Out.en, Rt.r, lend, back, restG, wipeG, Option.toList, List.nil_append, List.append_nil, List.cons_append, List.getElem?_cons_zero, List.getElem?_cons_succ, OD.d, Mi.isNon, List.map]))

/-! ### sum_for, and its row -/
theorem up_nodup {ss : List Str} (h : ss.Pairwise strUp) : ss.Nodup := h.imp fun {a b} hlt e => by subst e; exact List.lt_irrefl _ hlt
theorem rowV_all {ss nn : List Str} {c : Int} {cs : List Int} (hn : ss.Nodup) (hn2 : nn.Nodup) (hl : cs.length = 2 ^ ss.length + nn.length) : rowV ss nn (sumAll ss nn c cs) = c :: cs := by
  unfold rowV rowF
  refine List.ext_getElem (by simp [hl]; omega) fun i h1 h2 => ?_
  rw [List.getElem_map, List.getElem_range]
  have hmp : 1 ≤ 2 ^ ss.length := Nat.one_le_two_pow
  unfold sumAll
  rw [List.map_append, List.sum_append, List.map_cons, List.sum_cons, List.map_map, List.map_map]
  have hA : (((cs.take (2 ^ ss.length)).zipIdx.map (Ad.at ss nn i ∘ fun p => .size p.1 (regT ss p.2))).sum : Int) = if 1 ≤ i ∧ i ≤ 2 ^ ss.length then cs.getD (i - 1) 0 else 0 := by
    by_cases hi : 1 ≤ i ∧ i ≤ 2 ^ ss.length
    · rw [if_pos hi]
      have e : (cs.take (2 ^ ss.length)).zipIdx.map (Ad.at ss nn i ∘ fun p => .size p.1 (regT ss p.2)) = (cs.take (2 ^ ss.length)).zipIdx.map fun p => if p.2 = i - 1 then p.1 else 0 := by
        refine List.map_congr_left fun p hp => ?_
        obtain ⟨x, r⟩ := p
        have hr : r < 2 ^ ss.length := by
          have := (List.mem_zipIdx hp).2.1
          rw [List.length_take] at this
          omega
        show (if 1 ≤ i ∧ i ≤ 2 ^ ss.length ∧ (regT ss r).ev (lieV ss (i - 1)) = true then x else 0) = if r = i - 1 then x else 0
        rw [regT_ev hn (by omega) hr]
        by_cases g : r = i - 1
        · rw [if_pos g, if_pos ⟨hi.1, hi.2, by simp [g]⟩]
        · rw [if_neg g, if_neg fun z => g (eq_of_beq z.2.2).symm]
      rw [e, sum_zipIdx, if_pos (Nat.zero_le _), Nat.sub_zero]
      rw [List.getD_eq_getElem?_getD, List.getD_eq_getElem?_getD, List.getElem?_take_of_lt (by omega)]
    · rw [if_neg hi]
      refine sum_zero fun p _ => ?_
      exact if_neg fun z => hi ⟨z.1, z.2.1⟩
  have hB : (((nn.zip (cs.drop (2 ^ ss.length))).map (Ad.at ss nn i ∘ fun p => .num p.2 p.1)).sum : Int) = if 1 + 2 ^ ss.length ≤ i then cs.getD (i - 1) 0 else 0 := by
    have e : (nn.zip (cs.drop (2 ^ ss.length))).map (Ad.at ss nn i ∘ fun p => .num p.2 p.1) = (cs.drop (2 ^ ss.length)).zipIdx.map fun p => if i = 1 + 2 ^ ss.length + p.2 then p.1 else 0 := by
      refine List.ext_getElem (by simp [hl]) fun q g1 g2 => ?_
      have hq : q < nn.length := by simp [hl] at g1; omega
      simp only [List.getElem_map, List.getElem_zip, List.getElem_zipIdx, Function.comp_apply]
      show (if i = 1 + 2 ^ ss.length + (nn.findIdx? (fun z => z == nn[q])).getD 0 then _ else 0) = _
      have hnt : nn[q] ∉ nn.take q := fun hm => by
        obtain ⟨j, hj, e⟩ := List.mem_take_iff_getElem.mp hm
        have := (List.getElem_inj hn2).mp e
        omega
      rw [idx_at (List.getElem?_eq_getElem hq) hnt]
      simp
    rw [e]
    by_cases hi : 1 + 2 ^ ss.length ≤ i
    · have e2 : (fun p : Int × Nat => if i = 1 + 2 ^ ss.length + p.2 then p.1 else 0) = fun p => if p.2 = i - 1 - 2 ^ ss.length then p.1 else 0 := by
        funext p
        have : (i = 1 + 2 ^ ss.length + p.2) ↔ (p.2 = i - 1 - 2 ^ ss.length) := by omega
        simp only [this]
      rw [e2, sum_zipIdx, if_pos (Nat.zero_le _), if_pos hi, Nat.sub_zero]
      rw [List.getD_eq_getElem?_getD, List.getD_eq_getElem?_getD, List.getElem?_drop]
      congr 2
      omega
    · rw [if_neg hi]
      exact sum_zero fun p _ => if_neg (by omega)
  rw [hA, hB]
  show (if i = 0 then c else 0) + _ + _ = _
  by_cases h0 : i = 0
  · subst h0
    rw [if_pos rfl, if_neg (by omega), if_neg (by omega)]
    simp
  · have hg : (c :: cs)[i] = cs.getD (i - 1) 0 := by
      obtain ⟨j, rfl⟩ : ∃ j, i = j + 1 := ⟨i - 1, by omega⟩
      have hj : j < cs.length := by simpa using h2
      rw [List.getElem_cons_succ, Nat.add_sub_cancel, List.getD_eq_getElem?_getD, List.getElem?_eq_getElem hj]
      rfl
    rw [hg, if_neg h0]
    by_cases h3 : i ≤ 2 ^ ss.length
    · rw [if_pos ⟨by omega, h3⟩, if_neg (by omega)]
      omega
    · rw [if_neg (by omega), if_pos (by omega)]
      omega
def RwD (c : Int) (cs : List Int) (d : D) : Prop := d = .tup ((c :: cs).map D.int) ∨ d = .lst ((c :: cs).map D.int)
def SfrS (f : Sem1) : Prop := ∀ (ss nn : List Str) (top c : Int) (cs : List Int) (d : D), RwD c cs d → ss.length ≤ 3 → nn.length ≤ 3 → cs.length = 2 ^ ss.length + nn.length → Gv (f [.val (talkD ss nn top), .val d]) fun q => q = (.val (.tup ((sumV ss nn c cs).map Ad.d)), [.non, .non])
theorem ad_coef (a : Ad) : ∃ w r, a.d = .tup (.str w :: .int a.coef :: r) := by
  cases a with
  | lot c => exact ⟨_, _, rfl⟩
  | num c s => exact ⟨_, _, rfl⟩
  | size c t => exact ⟨_, _, rfl⟩
theorem sfrS {C : Mi.Ctx} (hR : RegS (C.ft 34)) (hN : NumsS (C.ft 35)) (hT : TrmS (C.ft 9)) : SfrS (runD C t13) := by
  intro ss nn top c cs d hd hs hn hcl
  refine gd_run rfl ?_
  show Gv (exs C b13 [.val (talkD ss nn top), .val d, .un, .un, .un, .un, .un, .un, .un, .un]) _
  unfold b13
  have hm8 := pw3 hs
  refine gs_cons (gv_mono (P' := fun p => p = (.nx, [.val (talkD ss nn top), .val d, .un, .un, .val (.int c), .un, .un, .un, .own (.lst (cs.map D.int)), .un])) ?_ ?_)
  · rcases hd with rfl | rfl
    · repeat walk_at "w"
      refine gl_star (by rw [List.length_map]; omega) (by simp) (by simp) ?_
      rfl
    · repeat walk_at "w"
      refine gl_starL (by rw [List.length_map]; omega) (by simp) (by simp) ?_
      rfl
  rintro _ rfl
  repeat walk_at "w"
  refine ins_is ?_
  repeat walk_at "w"
  refine callT_gv rfl rfl (gv_mono (hR ss nn top (by omega)) ?_)
  rintro _ rfl
  repeat walk_at "w"
  rw [← List.map_take, enu_gen]
  have hzl : (cs.take (2 ^ ss.length)).zipIdx.length = 2 ^ ss.length := by rw [List.length_zipIdx, List.length_take]; omega
  refine for_list _ (fun i Γ => ∃ x5 x6 , Γ = [.val (talkD ss nn top), .val d, .val (.int ((2 ^ ss.length : Nat) : Int)), .own (.lst (((Ad.lot c :: ((cs.take (2 ^ ss.length)).zipIdx.take i).map fun p => .size p.1 (regT ss p.2))).map Ad.d)), .val (.int c), x5, x6, .un, .own (.lst (cs.map D.int)), .un]) ⟨_, _, rfl⟩ ?_ ?_
  · rintro i p Γ hi ⟨x5, x6, rfl⟩
    have hil := (List.getElem?_eq_some_iff.mp hi).1
    have etk : (cs.take (2 ^ ss.length)).zipIdx.take (i + 1) = (cs.take (2 ^ ss.length)).zipIdx.take i ++ [p] := by rw [List.take_add_one, hi]; rfl
    have hr : p.2 < 2 ^ ss.length := by
      obtain ⟨x, r⟩ := p
      have := (List.mem_zipIdx (List.mem_of_getElem? hi)).2.1
      rw [List.length_take] at this
      show r < _
      omega
    have htl : ((cs.take (2 ^ ss.length)).zipIdx.take i).length ≤ 8 := by rw [List.length_take]; omega
    rw [etk, List.map_append]
    generalize (cs.take (2 ^ ss.length)).zipIdx.take i = ps at htl ⊢
    refine turnL_gv ?_
    refine gl_put rfl ?_
    dsimp only [List.set_cons_succ, List.set_cons_zero]
    repeat walk_at "w"
    refine gl_app rfl ?_
    repeat walk_at "w"
    refine callT_gv rfl rfl (gv_mono (hT ss nn top p.2 hs hr) ?_)
    rintro _ rfl
    repeat walk_at "w"
    refine ⟨_, _, rfl, rfl, by simp; omega, ?_⟩
    repeat walk_at "w"
    refine ⟨.val (.int p.2), .val (.int p.1), ?_⟩
    simp [Ad.d]
  rintro Γ ⟨x5, x6, rfl⟩
  rw [List.take_length]
  repeat walk_at "w"
  refine ins_is ?_
  repeat walk_at "w"
  refine callT_gv rfl rfl (gv_mono (hN ss nn top) ?_)
  rintro _ rfl
  repeat walk_at "w"
  refine gv_is (a := .fr (.lst ((cs.map D.int).drop (2 ^ ss.length)))) (by show nl (cutD (cs.map D.int) (some ((2 ^ ss.length : Nat) : Int)) none) = _; rw [cut_hi]; rfl) ?_
  repeat walk_at "w"
  rw [← List.map_drop, zipD_map]
  refine for_list _ (fun i Γ => ∃ x5 x6 x7, Γ = [.val (talkD ss nn top), .val d, .val (.int ((2 ^ ss.length : Nat) : Int)), .own (.lst (((Ad.lot c :: (cs.take (2 ^ ss.length)).zipIdx.map fun p => .size p.1 (regT ss p.2)) ++ ((nn.zip (cs.drop (2 ^ ss.length))).take i).map fun (p : Str × Int) => Ad.num p.2 p.1).map Ad.d)), .val (.int c), x5, x6, x7, .own (.lst (cs.map D.int)), .un]) ⟨x5, x6, .un, ?_⟩ ?_ ?_
  · simp
  · rintro i p Γ hi ⟨x5, x6, x7, rfl⟩
    have hil := (List.getElem?_eq_some_iff.mp hi).1
    rw [List.length_zip] at hil
    have etk : (nn.zip (cs.drop (2 ^ ss.length))).take (i + 1) = (nn.zip (cs.drop (2 ^ ss.length))).take i ++ [p] := by rw [List.take_add_one, hi]; rfl
    have htl : ((nn.zip (cs.drop (2 ^ ss.length))).take i).length ≤ 3 := by rw [List.length_take]; omega
    rw [etk, List.map_append]
    generalize (nn.zip (cs.drop (2 ^ ss.length))).take i = ps at htl ⊢
    have hqs : (Ad.lot c :: (cs.take (2 ^ ss.length)).zipIdx.map fun p => .size p.1 (regT ss p.2)).length ≤ 9 := by rw [List.length_cons, List.length_map]; omega
    generalize (Ad.lot c :: (cs.take (2 ^ ss.length)).zipIdx.map fun p => .size p.1 (regT ss p.2)) = qs at hqs ⊢
    refine turnL_gv ?_
    refine gl_put rfl ?_
    dsimp only [List.set_cons_succ, List.set_cons_zero]
    repeat walk_at "w"
    refine gl_app rfl ?_
    repeat walk_at "w"
    refine ⟨_, _, rfl, rfl, ?_, ?_⟩
    · simp at hqs ⊢; omega
    repeat walk_at "w"
    refine ⟨x5, .val (.int p.2), .val (.str p.1), ?_⟩
    simp [Ad.d]
  rintro Γ ⟨x5, x6, x7, rfl⟩
  rw [List.take_length]
  repeat walk_at "w"
  have eall : ((Ad.lot c).d :: (((cs.take (2 ^ ss.length)).zipIdx.map fun p => Ad.size p.1 (regT ss p.2)) ++ (nn.zip (cs.drop (2 ^ ss.length))).map fun p => Ad.num p.2 p.1).map Ad.d) = (sumAll ss nn c cs).map Ad.d := rfl
  have hlen : (sumAll ss nn c cs).length ≤ 20 := by
    unfold sumAll
    rw [List.length_append, List.length_cons, List.length_map, List.length_map, hzl, List.length_zip]
    omega
  rw [eall]
  refine len_lst (by omega) ?_
  refine cpr_filter Ad.d Ad.d (fun a => a.coef != 0) (fun a ha => ?_) ?_
  · obtain ⟨w, r, e⟩ := ad_coef a
    rw [e]
    repeat walk_at "w"
    show (if (!(a.coef == 0)) = true then _ else _)
    cases hb : (a.coef == 0)
    all_goals
      have hb2 : (a.coef != 0) = !(a.coef == 0) := rfl
      rw [hb] at hb2
      rw [hb2]
      repeat walk_at "w"
      try rfl
  repeat walk_at "w"
  exact gv_is rfl rfl

end Lk12

namespace Lk12
open Mi PySem L2
local macro_rules | `(tactic| walk_at "s") => `(tactic| (
  first
  | (with_reducible refine gs_cons ?_)
  | (with_reducible refine gs_asg ?_)
  | (with_reducible refine gs_ret ?_)
  | (with_reducible refine gs_exp ?_)
  | (with_reducible refine gs_setx ?_)
  | (with_reducible refine gs_nil ?_)
  | (with_reducible refine gv_con ?_)
  | ((with_reducible apply gv_var); exact rfl)
  | (with_reducible refine gv_bin ?_)
  | (with_reducible refine gv_cmp ?_)
  | (with_reducible refine gt_cmp ?_)
  | (with_reducible refine gv_idx ?_)
  | (with_reducible refine gv_bi ?_)
  | (with_reducible refine gt_bi ?_)
  | (with_reducible refine gv_cal ?_)
  | (with_reducible refine gv_tup ?_)
  | (with_reducible refine gv_lst ?_)
  | (with_reducible refine gv_slc ?_)
  | (with_reducible refine gv_not ?_)
  | (with_reducible refine gt_not ?_)
  | (with_reducible refine gf_nil ?_)
  | (with_reducible refine gf_cons ?_)
  | (with_reducible refine ga_nil ?_)
  | (with_reducible refine ga_cons ?_)
  | (with_reducible refine go_non ?_)
  | ((with_reducible apply gl_look); exact rfl)
  | ((with_reducible apply gl_frz); exact rfl)
  | (with_reducible refine gl_add ?_)
  | (with_reducible refine gl_sub ?_)
  | (with_reducible refine gl_lt ?_)
  | (with_reducible refine gl_le ?_)
  | (with_reducible refine gl_gt ?_)
  | (with_reducible refine gl_ge ?_)
  | (with_reducible refine gl_eq ?_)
  | (with_reducible refine gl_ne ?_)
  | (with_reducible refine gs_ife ?_)
  | (with_reducible refine gv_ite ?_)
  | ((with_reducible apply gl_rest); exact rfl)
  | ((with_reducible apply gl_put); exact rfl)
  | ((with_reducible apply gl_acc); exact rfl)
  | ((with_reducible apply gl_map); exact rfl)
  | ((with_reducible apply gl_tru); exact rfl)
  try dsimp only [List.set_cons_succ, List.set_cons_zero]))
local macro_rules | `(tactic| walk_at "w") => `(tactic| (
  first
  | (with_reducible refine gs_cons ?_)
  | (with_reducible refine gs_asg ?_)
  | (with_reducible refine gs_ret ?_)
  | (with_reducible refine gs_exp ?_)
  | (with_reducible refine gs_setx ?_)
  | (with_reducible refine gs_nil ?_)
  | (with_reducible refine gv_con ?_)
  | ((with_reducible apply gv_var); exact rfl)
  | ((with_reducible apply gt_var); exact rfl)
  | (with_reducible refine gv_bin ?_)
  | (with_reducible refine gv_cmp ?_)
  | (with_reducible refine gt_cmp ?_)
  | (with_reducible refine gv_idx ?_)
  | (with_reducible refine gv_bi ?_)
  | (with_reducible refine gt_bi ?_)
  | (with_reducible refine gv_isi1 ?_)
  | (with_reducible refine gt_isi1 ?_)
  | (with_reducible refine gv_cal ?_)
  | (with_reducible refine gv_fld ?_)
  | ((with_reducible apply gl_fld); exact rfl)
  | (with_reducible refine gv_mcl ?_)
  | (with_reducible refine gt_mcl ?_)
  | (with_reducible refine ins_is ?_)
  | (with_reducible refine gv_mk ?_)
  | (with_reducible refine gt_cal ?_)
  | (with_reducible refine gv_tup ?_)
  | (with_reducible refine gv_lst ?_)
  | (with_reducible refine gv_slc ?_)
  | (with_reducible refine gv_slx ?_)
  | (with_reducible refine gv_not ?_)
  | (with_reducible refine gt_not ?_)
  | (with_reducible refine gv_neg ?_)
  | (with_reducible refine gv_and ?_)
  | (with_reducible refine gv_or ?_)
  | (with_reducible refine gt_and ?_)
  | (with_reducible refine gt_or ?_)
  | (with_reducible refine gv_emp ?_)
  | (with_reducible refine gv_cpr ?_)
  | (with_reducible refine gs_for ?_)
  | (with_reducible refine gi_seq ?_)
  | (with_reducible refine gi_rng1 ?_)
  | (with_reducible refine gi_zip ?_)
  | (with_reducible refine gi_enu ?_)
  | (with_reducible refine gi_rev ?_)
  | (with_reducible refine gs_augx ?_)
  | (with_reducible refine gs_par ?_)
  | ((with_reducible apply gs_aug); exact rfl)
  | (with_reducible refine gl_aadd ?_)
  | (with_reducible refine gl_asub ?_)
  | (with_reducible refine gc_non ?_)
  | (with_reducible refine gc_som ?_)
  | (with_reducible refine turnK_gv ?_)
  | (with_reducible refine turnL_gv ?_)
  | (with_reducible refine gf_nil ?_)
  | (with_reducible refine gf_cons ?_)
  | (with_reducible refine ga_nil ?_)
  | (with_reducible refine ga_cons ?_)
  | (with_reducible refine go_non ?_)
  | (with_reducible refine go_som ?_)
  | (with_reducible refine ex_int ?_)
  | (with_reducible refine ex_bl ?_)
  | (with_reducible refine it_ ?_)
  | (with_reducible refine if_ ?_)
  | (with_reducible refine nit_ ?_)
  | (with_reducible refine nif_ ?_)
  | ((with_reducible apply gl_look); exact rfl)
  | ((with_reducible apply gl_frz); exact rfl)
  | (with_reducible refine gl_add ?_)
  | (with_reducible refine gl_sub ?_)
  | (with_reducible refine gl_lt ?_)
  | (with_reducible refine gl_le ?_)
  | (with_reducible refine gl_gt ?_)
  | (with_reducible refine gl_ge ?_)
  | (with_reducible refine gl_eq ?_)
  | (with_reducible refine gl_ne ?_)
  | (with_reducible refine gl_eqs ?_)
  | (with_reducible refine gl_nes ?_)
  | (with_reducible refine gl_eqb ?_)
  | (with_reducible refine gl_neb ?_)
  | (with_reducible refine gl_mul (mulOk_s (small60 (by omega)) (small60 (by omega))) ?_)
  | ((with_reducible apply gl_pow); exact ⟨by decide, .inl ⟨by decide, by decide⟩⟩)
  | (with_reducible refine gl_mod (by omega) ?_)
  | (with_reducible refine gl_div (divOk_s (small60 (by omega)) (by omega)) ?_)
  | (with_reducible refine gl_len ?_)
  | (with_reducible refine gl_lenT ?_)
  | (with_reducible refine gl_abs ?_)
  | (with_reducible refine gs_whl ?_)
  | (with_reducible refine gl_sum ?_)
  | (with_reducible refine gl_sum2 ?_)
  | (with_reducible refine gl_all ?_)
  | (with_reducible refine gl_any ?_)
  | (with_reducible refine gs_ife ?_)
  | (with_reducible refine gv_ite ?_)
  | ((with_reducible apply gl_rest); exact rfl)
  | ((with_reducible apply gl_put); exact rfl)
  | ((with_reducible apply gl_acc); exact rfl)
  | (with_reducible refine gl_map1 rfl ?_)
  | (with_reducible refine gl_map2 rfl rfl ?_)
  | ((with_reducible apply gl_map); exact rfl)
  | ((with_reducible apply gl_tru); exact rfl)
  | ((with_reducible apply gl_walk); exact rfl)
  | ((with_reducible apply gl_items); exact rfl)
  | ((with_reducible apply gl_ty); exact rfl)
  | (with_reducible refine gl_slc1T ?_)
  | (with_reducible refine gl_slc1L ?_)
  | (with_reducible refine gl_slcTa ?_)
  | (with_reducible refine gl_slcTb ?_)
  | (with_reducible refine gl_slcLa ?_)
  | (with_reducible refine gl_slcLb ?_)
  | ((with_reducible apply gl_idxt); exact rfl)
  | ((with_reducible apply gl_idxl); exact rfl)
  | ((with_reducible apply gl_bi); exact rfl)
  | ((with_reducible apply gl_cop); exact rfl)
  | dsimp only [List.set_cons_succ, List.set_cons_zero, backs, Out.en, Rt.r, lend, back, restG, wipeG, Option.toList, List.nil_append, List.append_nil, List.cons_append, List.getElem?_cons_zero, List.getElem?_cons_succ, OD.d, Mi.isNon, List.map]
  try dsimp only [List.set_cons_succ, List.set_cons_zero, backs, Out.en, Rt.r, lend, back, restG, wipeG, Option.toList, List.nil_append, List.append_nil, List.cons_append, List.getElem?_cons_zero, List.getElem?_cons_succ, OD.d, Mi.isNon, List.map]))
set_option hygiene false in
local macro_rules | `(tactic| walk_at "take") => `(tactic| (
  refine take_c rfl rfl (by assumption) (by assumption) (by omega) (small60 (by omega)) (by omega) ?_
  intro r o ra rb hp
  dsimp only [List.set_cons_succ, List.set_cons_zero, backs, Out.en, Rt.r, lend, back, restG, wipeG, Option.toList, List.nil_append, List.append_nil, List.cons_append, List.getElem?_cons_zero, List.getElem?_cons_succ, OD.d, Mi.isNon, List.map]))

local macro_rules | `(tactic| walk_at "x") => `(tactic| (first
  | walk_at "w"
  | (refine if_f rfl ?_)
  | (refine if_t rfl ?_)))

/-! ### what is an addend, a sum -/
def Ad.pts : Ad → Nat
  | .size _ t => t.parts
  | _ => 1
def IadS (f : Sem1) : Prop := ∀ (ss nn : List Str) (top : Int) (a : Ad), (∀ s ∈ ss, NameOk s) → a.ok ss nn → a.pts ≤ 100 → Gv (f [.val (talkD ss nn top), .val a.d]) fun q => q = (.val (.bl true), [.non, .non])
theorem whole_int (c : Int) : whole3B (.int c) .non .non = true := rfl
theorem iadS {C : Mi.Ctx} (hI : IwS (C.ft 1)) (hN : NumsS (C.ft 35)) (hT : IstS (C.ft 5)) : IadS (runD C t10) := by
  intro ss nn top a hss ho hp
  refine gd_run rfl ?_
  show Gv (exs C b10 [.val (talkD ss nn top), .val a.d]) _
  unfold b10
  cases a with
  | lot c =>
    dsimp only [Ad.d]
    repeat walk_at "x"
    refine callT_gv rfl rfl (gv_mono (hI (.int c) .non .non trivial (.inl rfl) (.inl rfl)) ?_)
    rintro _ rfl
    rw [whole_int]
    repeat walk_at "x"
    exact gv_is rfl rfl
  | num c s =>
    dsimp only [Ad.d]
    repeat walk_at "x"
    refine callT_gv rfl rfl (gv_mono (hI (.int c) .non .non trivial (.inl rfl) (.inl rfl)) ?_)
    rintro _ rfl
    rw [whole_int]
    repeat walk_at "x"
    refine ins_is ?_
    repeat walk_at "x"
    refine callT_gv rfl rfl (gv_mono (hN ss nn top) ?_)
    rintro _ rfl
    repeat walk_at "x"
    refine gl_inT ?_
    rw [show nn.contains s = true from by simpa using (show s ∈ nn from ho)]
    repeat walk_at "x"
    exact gv_is rfl rfl
  | size c t =>
    dsimp only [Ad.d]
    repeat walk_at "x"
    refine callT_gv rfl rfl (gv_mono (hI (.int c) .non .non trivial (.inl rfl) (.inl rfl)) ?_)
    rintro _ rfl
    rw [whole_int]
    repeat walk_at "x"
    refine callT_gv rfl rfl (gv_mono (hT ss nn top t ho.2 hss ho.1) ?_)
    rintro _ rfl
    rw [decide_eq_true (show t.parts ≤ 100 from hp)]
    repeat walk_at "x"
    exact gv_is rfl rfl
def IsuS (f : Sem1) : Prop := ∀ (ss nn : List Str) (top : Int) (as : List Ad), (∀ s ∈ ss, NameOk s) → as.length ≤ 12 → (∀ a ∈ as, a.ok ss nn ∧ a.pts ≤ 100) → Gv (f [.val (talkD ss nn top), .val (.tup (as.map Ad.d))]) fun q => q = (.val (.bl true), [.non, .non])
theorem isuS {C : Mi.Ctx} (hg : C.gl = glD) (hA : IadS (C.ft 10)) : IsuS (runD C t11) := by
  intro ss nn top as hss hl ho
  refine gd_run rfl ?_
  show Gv (exs C b11 [.val (talkD ss nn top), .val (.tup (as.map Ad.d)), .un]) _
  unfold b11
  repeat walk_at "w"
  refine gv_glb ?_
  rw [hg]
  repeat walk_at "w"
  rw [len_map]
  refine if_b (fun h => False.elim ?no) (fun _ => ?_)
  case no =>
    have h : decide ((12 : Int) < as.length) = true := h
    have := of_decide_eq_true h
    omega
  repeat walk_at "w"
  refine len_lst (by omega) ?_
  refine cpr_map Ad.d (fun _ => .bl true) (fun a ha => ?_) ?_
  · repeat walk_at "w"
    refine callT_gv rfl rfl (gv_mono (hA ss nn top a hss (ho a ha).1 (ho a ha).2) ?_)
    rintro _ rfl
    repeat walk_at "w"
  have e2 : (as.map fun _ => D.bl true) = (as.map fun _ => true).map D.bl := by rw [List.map_map]; rfl
  rw [e2]
  repeat walk_at "w"
  have e3 : ((as.map fun _ => true).all id) = true := by simp
  rw [e3]
  exact gv_is rfl rfl
def LiaS (f : Sem1) : Prop := ∀ (ss nn : List Str) (a : Ad), a.ok ss nn → a.pts ≤ 100 → Gv (f [.val (.tup [.tup (ss.map D.str), .tup (nn.map D.str)]), .val a.d]) fun q => q = (.val (.bl true), [.non, .non])
theorem wholeB_int (c : Int) : wholeB (.int c) none = true := rfl
theorem liaS {C : Mi.Ctx} (hI : LW (C.ft 21)) (hT : LprS 12 (C.ft 28)) : LiaS (runD C t29) := by
  intro ss nn a ho hp
  refine gd_run rfl ?_
  show Gv (exs C b29 [.val (.tup [.tup (ss.map D.str), .tup (nn.map D.str)]), .val a.d]) _
  unfold b29
  cases a with
  | lot c =>
    dsimp only [Ad.d]
    repeat walk_at "x"
    refine callT_gv rfl rfl (gv_mono (hI (.int c) rfl) ?_)
    rintro _ rfl
    rw [wholeB_int]
    repeat walk_at "x"
    exact gv_is rfl rfl
  | num c s =>
    dsimp only [Ad.d]
    repeat walk_at "x"
    refine callT_gv rfl rfl (gv_mono (hI (.int c) rfl) ?_)
    rintro _ rfl
    rw [wholeB_int]
    repeat walk_at "x"
    refine gl_inT ?_
    rw [show nn.contains s = true from by simpa using (show s ∈ nn from ho)]
    repeat walk_at "x"
    exact gv_is rfl rfl
  | size c t =>
    dsimp only [Ad.d]
    repeat walk_at "x"
    refine callT_gv rfl rfl (gv_mono (hI (.int c) rfl) ?_)
    rintro _ rfl
    rw [wholeB_int]
    repeat walk_at "x"
    refine gv_chn ?_
    repeat walk_at "x"
    refine callT_gv rfl rfl (gv_mono (hT ss t 12 ho.2 ho.2 (by decide) ho.1) ?_)
    rintro _ rfl
    repeat walk_at "x"
    have h1 := t.parts_pos
    have h2 : t.parts ≤ 100 := hp
    refine if_d (fun _ => ?_) (fun h => by omega)
    repeat walk_at "x"
    rw [decide_eq_true (show (t.parts : Int) ≤ 100 by omega)]
    exact gv_is rfl rfl
def LisS (f : Sem1) : Prop := ∀ (ss nn : List Str) (as : List Ad), as.length ≤ 12 → (∀ a ∈ as, a.ok ss nn ∧ a.pts ≤ 100) → Gv (f [.val (.tup [.tup (ss.map D.str), .tup (nn.map D.str)]), .val (.tup (as.map Ad.d))]) fun q => q = (.val (.bl true), [.non, .non])
theorem lisS {C : Mi.Ctx} (hA : LiaS (C.ft 29)) : LisS (runD C t30) := by
  intro ss nn as hl ho
  refine gd_run rfl ?_
  show Gv (exs C b30 [.val (.tup [.tup (ss.map D.str), .tup (nn.map D.str)]), .val (.tup (as.map Ad.d)), .un]) _
  unfold b30
  repeat walk_at "w"
  rw [len_map]
  refine if_b (fun h => False.elim ?no) (fun _ => ?_)
  case no =>
    have := of_decide_eq_true h
    omega
  repeat walk_at "w"
  refine len_lst (by omega) ?_
  refine cpr_map Ad.d (fun _ => .bl true) (fun a ha => ?_) ?_
  · repeat walk_at "w"
    refine callT_gv rfl rfl (gv_mono (hA ss nn a (ho a ha).1 (ho a ha).2) ?_)
    rintro _ rfl
    repeat walk_at "w"
  have e2 : (as.map fun _ => D.bl true) = (as.map fun _ => true).map D.bl := by rw [List.map_map]; rfl
  rw [e2]
  repeat walk_at "w"
  have e3 : ((as.map fun _ => true).all id) = true := by simp
  rw [e3]
  exact gv_is rfl rfl
/-! ### how long terms and sums are when shown -/
theorem RO.word {k : Nat} {t : Tm} (h : t.isNm = false) : RO k 20 (.str t.word) := by
  have key : ∀ cs : List Nat, cs.length ≤ 4 → (∀ c ∈ cs, c < 128) → RO k 20 (.str (sT cs)) := fun cs hl hc => (RO.str hc).mono (by omega)
  cases t with
  | nm s => cases h
  | all => exact key [97, 108, 108] (by decide) (by decide)
  | none => exact key [110, 111, 110, 101] (by decide) (by decide)
  | not _ => exact key [110, 111, 116] (by decide) (by decide)
  | and _ _ => exact key [97, 110, 100] (by decide) (by decide)
  | or _ _ => exact key [111, 114] (by decide) (by decide)
  | but _ _ => exact key [98, 117, 116] (by decide) (by decide)
theorem RO.name {k : Nat} {s : Str} (h : NameOk s) : RO k 34 (.str s) := by
  obtain ⟨cs, rfl, _, h8, hc⟩ := h
  exact (RO.str fun c hm => by have := hc c hm; omega).mono (by omega)
theorem RO.tm {ss : List Str} (hss : ∀ s ∈ ss, NameOk s) : ∀ (n k : Nat) (t : Tm), n ≤ k → t.dep ≤ n → t.ok ss → RO k (60 * t.parts) t.d
  | n, k, .nm s, _, _, ho => (RO.name (hss s ho)).mono (by show 34 ≤ 60 * 1; decide)
  | 0, k, t, _, hd, _ => absurd t.dep_pos (by omega)
  | n + 1, k, t, hk, hd, ho => by
    cases hn : t.isNm with
    | true => cases t <;> first | exact (RO.name (hss _ ho)).mono (by show 34 ≤ 60 * 1; decide) | cases hn
    | false =>
      obtain ⟨j, rfl⟩ : ∃ j, k = j + 1 := ⟨k - 1, by omega⟩
      rw [Tm.d_tup hn]
      have hkid : ∀ u ∈ t.kids, RO j (60 * u.parts) u.d := fun u hu => RO.tm hss n j u (by omega) (by have := Tm.kids_dep hu; omega) (Tm.kids_ok hu ho)
      have hw : RO j 20 (.str t.word) := RO.word hn
      have hp := t.parts_sum
      rw [hp]
      have hl := t.kids_le
      generalize t.kids = ks at hkid hl
      generalize t.word = w at hw
      match ks, hl, hkid with
      | [], _, _ =>
        have := RO.tup (n := 20) (ds := [.str w]) (k := j) (by simpa using hw)
        exact this.mono (by simp)
      | [a], _, h =>
        have ha := h a List.mem_cons_self
        have := RO.tupS (k := j) (f := fun d => (pyOf d).shown.length) (ds := [.str w, a.d]) (by
          refine List.forall_mem_cons.mpr ⟨⟨hw.pl, hw.sh, Nat.le_refl _⟩, ?_⟩
          refine List.forall_mem_cons.mpr ⟨⟨ha.pl, ha.sh, Nat.le_refl _⟩, ?_⟩
          exact fun _ h => nomatch h)
        have l1 := hw.len
        have l2 := ha.len
        refine this.mono ?_
        simp only [List.map_cons, List.map_nil, List.sum_cons, List.sum_nil, List.length_cons, List.length_nil]
        omega
      | [a, b], _, h =>
        have ha := h a List.mem_cons_self
        have hb := h b (List.mem_cons_of_mem _ List.mem_cons_self)
        have := RO.tupS (k := j) (f := fun d => (pyOf d).shown.length) (ds := [.str w, a.d, b.d]) (by
          refine List.forall_mem_cons.mpr ⟨⟨hw.pl, hw.sh, Nat.le_refl _⟩, ?_⟩
          refine List.forall_mem_cons.mpr ⟨⟨ha.pl, ha.sh, Nat.le_refl _⟩, ?_⟩
          refine List.forall_mem_cons.mpr ⟨⟨hb.pl, hb.sh, Nat.le_refl _⟩, ?_⟩
          exact fun _ h => nomatch h)
        have l1 := hw.len
        have l2 := ha.len
        have l3 := hb.len
        refine this.mono ?_
        simp only [List.map_cons, List.map_nil, List.sum_cons, List.sum_nil, List.length_cons, List.length_nil]
        omega
      | a :: b :: c :: l, hl, _ => simp at hl
theorem RO.ad {ss nn : List Str} (hss : ∀ s ∈ ss, NameOk s) (hnn : ∀ s ∈ nn, NameOk s) {k : Nat} {a : Ad} (ho : a.ok ss nn) (hc : a.coef.natAbs < 10 ^ 100) (hk : 12 ≤ k) : RO (k + 1) (160 + 60 * a.pts) a.d := by
  have key : ∀ cs : List Nat, cs.length ≤ 4 → (∀ c ∈ cs, c < 128) → RO k 20 (.str (sT cs)) := fun cs hl hc => (RO.str hc).mono (by omega)
  have hi : RO k 101 (.int a.coef) := RO.int hc
  have l2 := hi.len
  cases a with
  | lot c =>
    have hw : RO k 20 (.str "lot") := key [108, 111, 116] (by decide) (by decide)
    have l1 := hw.len
    have := RO.tupS (k := k) (f := fun d => (pyOf d).shown.length) (ds := [.str "lot", .int c]) (by
      refine List.forall_mem_cons.mpr ⟨⟨hw.pl, hw.sh, Nat.le_refl _⟩, ?_⟩
      refine List.forall_mem_cons.mpr ⟨⟨hi.pl, hi.sh, Nat.le_refl _⟩, ?_⟩
      exact fun _ h => nomatch h)
    refine this.mono ?_
    simp only [List.map_cons, List.map_nil, List.sum_cons, List.sum_nil, List.length_cons, List.length_nil]
    have l2 : (pyOf (.int c)).shown.length ≤ 101 := l2
    show _ ≤ 160 + 60 * 1
    omega
  | num c s =>
    have hw : RO k 20 (.str "num") := key [110, 117, 109] (by decide) (by decide)
    have hs : RO k 34 (.str s) := RO.name (hnn s ho)
    have l1 := hw.len
    have l3 := hs.len
    have := RO.tupS (k := k) (f := fun d => (pyOf d).shown.length) (ds := [.str "num", .int c, .str s]) (by
      refine List.forall_mem_cons.mpr ⟨⟨hw.pl, hw.sh, Nat.le_refl _⟩, ?_⟩
      refine List.forall_mem_cons.mpr ⟨⟨hi.pl, hi.sh, Nat.le_refl _⟩, ?_⟩
      refine List.forall_mem_cons.mpr ⟨⟨hs.pl, hs.sh, Nat.le_refl _⟩, ?_⟩
      exact fun _ h => nomatch h)
    refine this.mono ?_
    simp only [List.map_cons, List.map_nil, List.sum_cons, List.sum_nil, List.length_cons, List.length_nil]
    have l2 : (pyOf (.int c)).shown.length ≤ 101 := l2
    show _ ≤ 160 + 60 * 1
    omega
  | size c t =>
    have hw : RO k 20 (.str "size") := key [115, 105, 122, 101] (by decide) (by decide)
    have hs : RO k (60 * t.parts) t.d := RO.tm hss 12 k t hk ho.2 ho.1
    have l1 := hw.len
    have l3 := hs.len
    have := RO.tupS (k := k) (f := fun d => (pyOf d).shown.length) (ds := [.str "size", .int c, t.d]) (by
      refine List.forall_mem_cons.mpr ⟨⟨hw.pl, hw.sh, Nat.le_refl _⟩, ?_⟩
      refine List.forall_mem_cons.mpr ⟨⟨hi.pl, hi.sh, Nat.le_refl _⟩, ?_⟩
      refine List.forall_mem_cons.mpr ⟨⟨hs.pl, hs.sh, Nat.le_refl _⟩, ?_⟩
      exact fun _ h => nomatch h)
    refine this.mono ?_
    simp only [List.map_cons, List.map_nil, List.sum_cons, List.sum_nil, List.length_cons, List.length_nil]
    have l2 : (pyOf (.int c)).shown.length ≤ 101 := l2
    show _ ≤ 160 + 60 * t.parts
    omega
theorem RO.ads {ss nn : List Str} (hss : ∀ s ∈ ss, NameOk s) (hnn : ∀ s ∈ nn, NameOk s) {as : List Ad} (hl : as.length ≤ 100) (ho : ∀ a ∈ as, a.ok ss nn ∧ a.pts ≤ 150 ∧ a.coef.natAbs < 10 ^ 100) : RO 60 16777216 (.tup (as.map Ad.d)) := by
  have := RO.tup (k := 59) (n := 160 + 60 * 150) (ds := as.map Ad.d) (fun d hd => by
    obtain ⟨a, ha, rfl⟩ := List.mem_map.mp hd
    obtain ⟨h1, h2, h3⟩ := ho a ha
    exact (RO.ad (k := 58) hss hnn h1 h3 (by decide)).mono (by omega))
  refine this.mono ?_
  rw [List.length_map]
  omega

end Lk12

namespace Lk12
open Mi PySem L2
local macro_rules | `(tactic| walk_at "s") => `(tactic| (
  first
  | (with_reducible refine gs_cons ?_)
  | (with_reducible refine gs_asg ?_)
  | (with_reducible refine gs_ret ?_)
  | (with_reducible refine gs_exp ?_)
  | (with_reducible refine gs_setx ?_)
  | (with_reducible refine gs_nil ?_)
  | (with_reducible refine gv_con ?_)
  | ((with_reducible apply gv_var); exact rfl)
  | (with_reducible refine gv_bin ?_)
  | (with_reducible refine gv_cmp ?_)
  | (with_reducible refine gt_cmp ?_)
  | (with_reducible refine gv_idx ?_)
  | (with_reducible refine gv_bi ?_)
  | (with_reducible refine gt_bi ?_)
  | (with_reducible refine gv_cal ?_)
  | (with_reducible refine gv_tup ?_)
  | (with_reducible refine gv_lst ?_)
  | (with_reducible refine gv_slc ?_)
  | (with_reducible refine gv_not ?_)
  | (with_reducible refine gt_not ?_)
  | (with_reducible refine gf_nil ?_)
  | (with_reducible refine gf_cons ?_)
  | (with_reducible refine ga_nil ?_)
  | (with_reducible refine ga_cons ?_)
  | (with_reducible refine go_non ?_)
  | ((with_reducible apply gl_look); exact rfl)
  | ((with_reducible apply gl_frz); exact rfl)
  | (with_reducible refine gl_add ?_)
  | (with_reducible refine gl_sub ?_)
  | (with_reducible refine gl_lt ?_)
  | (with_reducible refine gl_le ?_)
  | (with_reducible refine gl_gt ?_)
  | (with_reducible refine gl_ge ?_)
  | (with_reducible refine gl_eq ?_)
  | (with_reducible refine gl_ne ?_)
  | (with_reducible refine gs_ife ?_)
  | (with_reducible refine gv_ite ?_)
  | ((with_reducible apply gl_rest); exact rfl)
  | ((with_reducible apply gl_put); exact rfl)
  | ((with_reducible apply gl_acc); exact rfl)
  | ((with_reducible apply gl_map); exact rfl)
  | ((with_reducible apply gl_tru); exact rfl)
  try dsimp only [List.set_cons_succ, List.set_cons_zero]))
local macro_rules | `(tactic| walk_at "w") => `(tactic| (
  first
  | (with_reducible refine gs_cons ?_)
  | (with_reducible refine gs_asg ?_)
  | (with_reducible refine gs_ret ?_)
  | (with_reducible refine gs_exp ?_)
  | (with_reducible refine gs_setx ?_)
  | (with_reducible refine gs_nil ?_)
  | (with_reducible refine gv_con ?_)
  | ((with_reducible apply gv_var); exact rfl)
  | ((with_reducible apply gt_var); exact rfl)
  | (with_reducible refine gv_bin ?_)
  | (with_reducible refine gv_cmp ?_)
  | (with_reducible refine gt_cmp ?_)
  | (with_reducible refine gv_idx ?_)
  | (with_reducible refine gv_bi ?_)
  | (with_reducible refine gt_bi ?_)
  | (with_reducible refine gv_isi1 ?_)
  | (with_reducible refine gt_isi1 ?_)
  | (with_reducible refine gv_cal ?_)
  | (with_reducible refine gv_fld ?_)
  | ((with_reducible apply gl_fld); exact rfl)
  | (with_reducible refine gv_mcl ?_)
  | (with_reducible refine gt_mcl ?_)
  | (with_reducible refine ins_is ?_)
  | (with_reducible refine gv_mk ?_)
  | (with_reducible refine gt_cal ?_)
  | (with_reducible refine gv_tup ?_)
  | (with_reducible refine gv_lst ?_)
  | (with_reducible refine gv_slc ?_)
  | (with_reducible refine gv_slx ?_)
  | (with_reducible refine gv_not ?_)
  | (with_reducible refine gt_not ?_)
  | (with_reducible refine gv_neg ?_)
  | (with_reducible refine gv_and ?_)
  | (with_reducible refine gv_or ?_)
  | (with_reducible refine gt_and ?_)
  | (with_reducible refine gt_or ?_)
  | (with_reducible refine gv_emp ?_)
  | (with_reducible refine gv_cpr ?_)
  | (with_reducible refine gs_for ?_)
  | (with_reducible refine gi_seq ?_)
  | (with_reducible refine gi_rng1 ?_)
  | (with_reducible refine gi_zip ?_)
  | (with_reducible refine gi_enu ?_)
  | (with_reducible refine gi_rev ?_)
  | (with_reducible refine gs_augx ?_)
  | (with_reducible refine gs_par ?_)
  | ((with_reducible apply gs_aug); exact rfl)
  | (with_reducible refine gl_aadd ?_)
  | (with_reducible refine gl_asub ?_)
  | (with_reducible refine gc_non ?_)
  | (with_reducible refine gc_som ?_)
  | (with_reducible refine turnK_gv ?_)
  | (with_reducible refine turnL_gv ?_)
  | (with_reducible refine gf_nil ?_)
  | (with_reducible refine gf_cons ?_)
  | (with_reducible refine ga_nil ?_)
  | (with_reducible refine ga_cons ?_)
  | (with_reducible refine go_non ?_)
  | (with_reducible refine go_som ?_)
  | (with_reducible refine ex_int ?_)
  | (with_reducible refine ex_bl ?_)
  | (with_reducible refine it_ ?_)
  | (with_reducible refine if_ ?_)
  | (with_reducible refine nit_ ?_)
  | (with_reducible refine nif_ ?_)
  | ((with_reducible apply gl_look); exact rfl)
  | ((with_reducible apply gl_frz); exact rfl)
  | (with_reducible refine gl_add ?_)
  | (with_reducible refine gl_sub ?_)
  | (with_reducible refine gl_lt ?_)
  | (with_reducible refine gl_le ?_)
  | (with_reducible refine gl_gt ?_)
  | (with_reducible refine gl_ge ?_)
  | (with_reducible refine gl_eq ?_)
  | (with_reducible refine gl_ne ?_)
  | (with_reducible refine gl_eqs ?_)
  | (with_reducible refine gl_nes ?_)
  | (with_reducible refine gl_eqb ?_)
  | (with_reducible refine gl_neb ?_)
  | (with_reducible refine gl_mul (mulOk_s (small60 (by omega)) (small60 (by omega))) ?_)
  | ((with_reducible apply gl_pow); exact ⟨by decide, .inl ⟨by decide, by decide⟩⟩)
  | (with_reducible refine gl_mod (by omega) ?_)
  | (with_reducible refine gl_div (divOk_s (small60 (by omega)) (by omega)) ?_)
  | (with_reducible refine gl_len ?_)
  | (with_reducible refine gl_lenT ?_)
  | (with_reducible refine gl_abs ?_)
  | (with_reducible refine gs_whl ?_)
  | (with_reducible refine gl_sum ?_)
  | (with_reducible refine gl_sum2 ?_)
  | (with_reducible refine gl_all ?_)
  | (with_reducible refine gl_any ?_)
  | (with_reducible refine gs_ife ?_)
  | (with_reducible refine gv_ite ?_)
  | ((with_reducible apply gl_rest); exact rfl)
  | ((with_reducible apply gl_put); exact rfl)
  | ((with_reducible apply gl_acc); exact rfl)
  | (with_reducible refine gl_map1 rfl ?_)
  | (with_reducible refine gl_map2 rfl rfl ?_)
  | ((with_reducible apply gl_map); exact rfl)
  | ((with_reducible apply gl_tru); exact rfl)
  | ((with_reducible apply gl_walk); exact rfl)
  | ((with_reducible apply gl_items); exact rfl)
  | ((with_reducible apply gl_ty); exact rfl)
  | (with_reducible refine gl_slc1T ?_)
  | (with_reducible refine gl_slc1L ?_)
  | (with_reducible refine gl_slcTa ?_)
  | (with_reducible refine gl_slcTb ?_)
  | (with_reducible refine gl_slcLa ?_)
  | (with_reducible refine gl_slcLb ?_)
  | ((with_reducible apply gl_idxt); exact rfl)
  | ((with_reducible apply gl_idxl); exact rfl)
  | ((with_reducible apply gl_bi); exact rfl)
  | ((with_reducible apply gl_cop); exact rfl)
  | dsimp only [List.set_cons_succ, List.set_cons_zero, backs, Out.en, Rt.r, lend, back, restG, wipeG, Option.toList, List.nil_append, List.append_nil, List.cons_append, List.getElem?_cons_zero, List.getElem?_cons_succ, OD.d, Mi.isNon, List.map]
  try dsimp only [List.set_cons_succ, List.set_cons_zero, backs, Out.en, Rt.r, lend, back, restG, wipeG, Option.toList, List.nil_append, List.append_nil, List.cons_append, List.getElem?_cons_zero, List.getElem?_cons_succ, OD.d, Mi.isNon, List.map]))
set_option hygiene false in
local macro_rules | `(tactic| walk_at "take") => `(tactic| (
  refine take_c rfl rfl (by assumption) (by assumption) (by omega) (small60 (by omega)) (by omega) ?_
  intro r o ra rb hp
  dsimp only [List.set_cons_succ, List.set_cons_zero, backs, Out.en, Rt.r, lend, back, restG, wipeG, Option.toList, List.nil_append, List.append_nil, List.cons_append, List.getElem?_cons_zero, List.getElem?_cons_succ, OD.d, Mi.isNon, List.map]))

local macro_rules | `(tactic| walk_at "x") => `(tactic| (first
  | walk_at "w"
  | (refine if_f rfl ?_)
  | (refine if_t rfl ?_)))

def G9S (f : Sem1) : Prop := ∀ (n : Int) (o : OD), Pl n o → n ≤ 900000000000 → Gv (f [.own o]) fun q => ∃ (z : Int) (o' : OD), q = (.val (.int z), [.own o']) ∧ 0 ≤ z ∧ z < 10 ^ 30 ∧ Pl (n + 5) o'
theorem g9S {C : Mi.Ctx} (hT : TakeS (C.ft 15)) : G9S (runD C t22) := by
  intro n o h hn
  refine gd_run rfl ?_
  show Gv (exs C b22 [.own o, .un, .un]) _
  unfold b22
  repeat walk_at "w"
  refine rng_i (by decide) (by decide) ?_
  refine forL_gv (fun i Γ => ∃ (o' : OD) (g : Int) (x : En), Γ = [.own o', .val (.int g), x] ∧ 0 ≤ g ∧ g < 10 ^ (6 * i) ∧ Pl (n + i) o') ⟨o, 0, _, rfl, by decide, by decide, by simpa using h⟩ ?_ ?_
  · rintro i d Γ hd ⟨o', g, x, rfl, g0, g1, hp⟩
    obtain ⟨rfl, hi⟩ := range_at (w := 5) hd
    have h6 : (10 : Int) ^ (6 : Int).toNat = 1000000 := by decide
    have e : (10 : Int) ^ (6 * (i + 1)) = 10 ^ (6 * i) * 1000000 := by rw [Nat.mul_add, Int.pow_add]; rfl
    have hgb : g < 10 ^ 30 := Int.lt_of_lt_of_le g1 (by
      rcases (show i = 0 ∨ i = 1 ∨ i = 2 ∨ i = 3 ∨ i = 4 by omega) with rfl | rfl | rfl | rfl | rfl <;> decide)
    refine turnL_gv ?_
    refine gl_put rfl ?_
    dsimp only [List.set_cons_succ, List.set_cons_zero]
    repeat walk_at "w"
    rw [h6]
    repeat walk_at "w"
    try rw [h6]
    refine take_c rfl rfl hT hp (by omega) (small60 (by omega)) (by omega) ?_
    intro r o1 ra rb hp1
    repeat walk_at "w"
    refine ⟨o1, _, _, rfl, by omega, ?_, hp1.mono (by omega)⟩
    rw [e]
    omega
  · rintro Γ ⟨o', g, x, rfl, g0, g1, hp⟩
    rw [show (rangeL 0 (5 : Int).toNat 1).length = 5 from range_len (w := 5)] at g1 hp
    repeat walk_at "w"
    exact gv_is rfl ⟨g, o', rfl, g0, g1, hp⟩

def NbS (f : Sem1) : Prop := ∀ (n : Int) (o : OD), Pl n o → n ≤ 800000000000 → Gv (f [.own o]) fun q => ∃ (z : Int) (o' : OD), q = (.val (.int z), [.own o']) ∧ z.natAbs ≤ 10 ^ 30 ∧ Pl (n + 20) o'
theorem nbS {C : Mi.Ctx} (hT : TakeS (C.ft 15)) (hG : G9S (C.ft 22)) : NbS (runD C t23) := by
  intro n o h hn
  refine gd_run rfl ?_
  show Gv (exs C b23 [.own o, .un]) _
  unfold b23
  repeat walk_at "w"
  refine take_c rfl rfl hT h (by omega) (small60 (by omega)) (by omega) ?_
  intro way o1 wa wb hp1
  repeat walk_at "w"
  refine if_e (fun h0 => ?_) (fun h0 => ?_)
  · repeat walk_at "w"
    exact gv_is rfl ⟨0, o1, rfl, by decide, hp1.mono (by omega)⟩
  repeat walk_at "w"
  refine if_e (fun h3 => ?_) (fun h3 => ?_)
  · repeat walk_at "w"
    refine callT_gv rfl rfl (gv_mono (hG _ o1 hp1 (by omega)) ?_)
    rintro _ ⟨g, o4, rfl, g0, g1, hp4⟩
    repeat walk_at "w"
    refine take_c rfl rfl hT hp4 (by omega) (small60 (by omega)) (by omega) ?_
    intro r5 o5 ra5 rb5 hp5
    repeat walk_at "w"
    refine gv_mono (P' := fun d => d = .int 1 ∨ d = .int (-1)) (gl_pick ra5 (by exact rb5) ?_) ?_
    · refine List.forall_mem_cons.mpr ⟨.inl rfl, ?_⟩
      refine List.forall_mem_cons.mpr ⟨.inr rfl, ?_⟩
      exact fun _ h => nomatch h
    rintro _ (rfl | rfl)
    · repeat walk_at "w"
      exact gv_is rfl ⟨_, o5, rfl, by omega, hp5.mono (by omega)⟩
    · repeat walk_at "w"
      exact gv_is rfl ⟨_, o5, rfl, by omega, hp5.mono (by omega)⟩
  repeat walk_at "w"
  refine take_c rfl rfl hT hp1 (by omega) (small60 (by omega)) (by omega) ?_
  intro r2 o2 ra2 rb2 hp2
  repeat walk_at "w"
  refine take_c rfl rfl hT hp2 (by omega) (small60 (by omega)) (by omega) ?_
  intro r3 o3 ra3 rb3 hp3
  repeat walk_at "w"
  refine gv_mono (P' := fun d => ∃ z : Int, d = .int z ∧ 0 ≤ z ∧ z ≤ 1000) (gl_pick (by omega) (by show way - 1 < 2; omega) ?_) ?_
  · repeat refine List.forall_mem_cons.mpr ⟨⟨_, rfl, by omega, by omega⟩, ?_⟩
    exact fun _ h => nomatch h
  rintro _ ⟨z, rfl, z0, z1⟩
  repeat walk_at "w"
  refine take_c rfl rfl hT hp3 (by omega) (small60 (by omega)) (by omega) ?_
  intro r5 o5 ra5 rb5 hp5
  repeat walk_at "w"
  refine gv_mono (P' := fun d => d = .int 1 ∨ d = .int (-1)) (gl_pick ra5 (by exact rb5) ?_) ?_
  · refine List.forall_mem_cons.mpr ⟨.inl rfl, ?_⟩
    refine List.forall_mem_cons.mpr ⟨.inr rfl, ?_⟩
    exact fun _ h => nomatch h
  rintro _ (rfl | rfl)
  · repeat walk_at "w"
    exact gv_is rfl ⟨_, o5, rfl, by omega, hp5.mono (by omega)⟩
  · repeat walk_at "w"
    exact gv_is rfl ⟨_, o5, rfl, by omega, hp5.mono (by omega)⟩

def Bd (cs : List Int) : Prop := ∀ c ∈ cs, c.natAbs ≤ 10 ^ 30
def RwS (f : Sem1) : Prop := ∀ (n : Int) (m : Nat) (o : OD), Pl n o → m ≤ 60 → n ≤ 700000000000 → Gv (f [.own o, .val (.int m)]) fun q => ∃ (cs : List Int) (o' : OD), q = (.fr (.lst (cs.map D.int)), [.own o', .non]) ∧ cs.length = m ∧ Bd cs ∧ Pl (n + 1200) o'
theorem rwS {C : Mi.Ctx} (hN : NbS (C.ft 23)) : RwS (runD C t24) := by
  intro n m o h hm hn
  refine gd_run rfl ?_
  show Gv (exs C b24 [.own o, .val (.int m), .un]) _
  unfold b24
  repeat walk_at "w"
  refine rng_i (by omega) (by omega) ?_
  refine len_rng (by omega) ?_
  refine cpr_ints (Γ := fun o => [.own o, .val (.int m), .un]) (fun c => c.natAbs ≤ 10 ^ 30) (fun k o => Pl (n + 20 * k) o) (by simpa using h) ?_ ?_
  · intro k o1 hk hp
    repeat walk_at "w"
    refine callT_gv rfl rfl (gv_mono (hN _ o1 hp (by omega)) ?_)
    rintro _ ⟨z, o2, rfl, hz, hp2⟩
    repeat walk_at "w"
    exact ⟨z, o2, rfl, hz, hp2.mono (by omega)⟩
  · intro cs o1 hl hb hp
    repeat walk_at "w"
    exact gv_is rfl ⟨cs, o1, rfl, hl, hb, hp.mono (by omega)⟩

def DrS (f : Sem1) : Prop := ∀ (n : Int) (ds : List D) (o : OD), Pl n o → n ≤ 900000000000 → Gv (f [.own o, .val (.lst ds)]) fun q => ∃ (o' : OD), (q = (.val (.tup ds), [.own o', .non]) ∨ q = (.fr (.lst ds), [.own o', .non])) ∧ Pl (n + 1) o'
theorem drS {C : Mi.Ctx} (hT : TakeS (C.ft 15)) : DrS (runD C t25) := by
  intro n ds o h hn
  refine gd_run rfl ?_
  show Gv (exs C b25 [.own o, .val (.lst ds)]) _
  unfold b25
  repeat walk_at "w"
  refine take_c rfl rfl hT h (by omega) (small60 (by omega)) (by omega) ?_
  intro r o1 ra rb hp
  repeat walk_at "w"
  refine if_e (fun h0 => ?_) (fun h0 => ?_)
  · repeat walk_at "w"
    exact gv_is rfl ⟨o1, .inl rfl, hp⟩
  · repeat walk_at "w"
    exact gv_is rfl ⟨o1, .inr rfl, hp⟩

/-! ### k12: the law's own body -/
theorem deqs_ints : ∀ vs : List Int, deqs (vs.map D.int) (vs.map D.int) = true
  | [] => rfl
  | v :: vs => by
    rw [List.map_cons, deqs, deqs_ints vs, deq, beq_self_eq_true]
    rfl
theorem deq_intsT (vs : List Int) : deq (.tup (vs.map D.int)) (.tup (vs.map D.int)) = true := by rw [deq]; exact deqs_ints vs
theorem sumV_all {ss nn : List Str} {c : Int} {cs : List Int} {B : Nat} (hs : ss.length ≤ 3) (hcl : cs.length = 2 ^ ss.length + nn.length) (hb : ∀ x ∈ c :: cs, x.natAbs ≤ B) : (sumV ss nn c cs).length ≤ 1 + 2 ^ ss.length + nn.length ∧ ∀ a ∈ sumV ss nn c cs, a.ok ss nn ∧ a.pts ≤ 16 ∧ a.coef.natAbs ≤ B := by
  constructor
  · refine Nat.le_trans (List.length_filter_le _ _) ?_
    unfold sumAll
    rw [List.length_append, List.length_cons, List.length_map, List.length_map, List.length_zipIdx, List.length_take, List.length_zip]
    omega
  · intro a ha
    have ha := (List.mem_filter.mp ha).1
    unfold sumAll at ha
    rcases List.mem_append.mp ha with h | h
    · rcases List.mem_cons.mp h with rfl | h
      · exact ⟨trivial, by show 1 ≤ 16; decide, hb c List.mem_cons_self⟩
      · obtain ⟨p, hp, rfl⟩ := List.mem_map.mp h
        have hd := regT_dep (r := p.2) hs
        refine ⟨⟨regT_ok, by omega⟩, ?_, hb _ (List.mem_cons_of_mem _ ?_)⟩
        · have h1 := parts_b (regT ss p.2)
          have h2 : 2 ^ (regT ss p.2).dep ≤ 2 ^ 4 := Nat.pow_le_pow_right (by decide) hd
          show (regT ss p.2).parts ≤ 16
          generalize 2 ^ (regT ss p.2).dep = z at *
          omega
        · obtain ⟨x, r⟩ := p
          have := List.fst_mem_of_mem_zipIdx hp
          exact List.mem_of_mem_take this
    · obtain ⟨p, hp, rfl⟩ := List.mem_map.mp h
      obtain ⟨s, x⟩ := p
      obtain ⟨m1, m2⟩ := List.of_mem_zip hp
      exact ⟨m1, by show 1 ≤ 16; decide, hb _ (List.mem_cons_of_mem _ (List.mem_of_mem_drop m2))⟩
theorem RO.rowT {cs : List Int} (hb : ∀ x ∈ cs, x.natAbs ≤ 10 ^ 30) (hl : cs.length ≤ 100) : RO 60 16777216 (.tup (cs.map D.int)) := by
  refine (RO.tup (k := 59) (n := 101) (ds := cs.map D.int) (fun d hd => ?_)).mono (by rw [List.length_map]; omega)
  obtain ⟨c, hc, rfl⟩ := List.mem_map.mp hd
  exact RO.int (Nat.lt_of_le_of_lt (hb c hc) (by decide))
theorem RO.rowL {cs : List Int} (hb : ∀ x ∈ cs, x.natAbs ≤ 10 ^ 30) (hl : cs.length ≤ 100) : RO 60 16777216 (.lst (cs.map D.int)) := by
  refine (RO.lst (k := 59) (n := 101) (ds := cs.map D.int) (fun d hd => ?_)).mono (by rw [List.length_map]; omega)
  obtain ⟨c, hc, rfl⟩ := List.mem_map.mp hd
  exact RO.int (Nat.lt_of_le_of_lt (hb c hc) (by decide))
theorem b2i_01 (b : Bool) : b2i b = 0 ∨ b2i b = 1 := by cases b; exact .inl rfl; exact .inr rfl
def RightS (f : Sem1) : Prop := ∀ (n : Int) (o : OD), Pl n o → n ≤ 1000000 → Gv (f [.own o]) fun q => ∃ os, q = (.val (.bl true), os)
theorem rightS {C : Mi.Ctx} (hT : TakeS (C.ft 15)) (hTo : TongueS (C.ft 18)) (hG : G9S (C.ft 22)) (hI : InitS (C.fi 33)) (hLr : LrgS (C.ft 26)) (hRw : RwS (C.ft 24)) (hDr : DrS (C.ft 25)) (hSf : SfrS (C.ft 13)) (hLis : LisS (C.ft 30)) (hLsr : LsrS (C.ft 27)) (hIs : IsuS (C.ft 11)) (hRo : RowS (C.ft 12)) : RightS (runD C t31) := by
  intro n o h hn
  refine gd_run rfl ?_
  show Gv (exs C b31 [.own o, .un, .un, .un, .un, .un, .un, .un, .un, .un, .un, .un, .un]) _
  unfold b31
  repeat walk_at "w"
  refine callT_gv rfl rfl (gv_mono (hTo _ 3 2 o h (by decide) (by decide) (by omega)) ?_)
  rintro _ ⟨ss, nn, o1, rfl, hss, hnn, htg, hp1⟩
  have hm8 := pw3 hss
  have hm1 : 1 ≤ 2 ^ ss.length := Nat.one_le_two_pow
  have hnS := up_nodup htg.upS
  have hnN := up_nodup htg.upN
  repeat walk_at "w"
  refine take_c rfl rfl (by assumption) (by assumption) (by omega) (small60 (by omega)) (by omega) ?_
  intro r2 o2 ra2 rb2 hp2
  repeat walk_at "w"
  refine callT_gv rfl rfl (gv_mono (hG _ o2 hp2 (by omega)) ?_)
  rintro _ ⟨g, o3, rfl, g0, g1, hp3⟩
  repeat walk_at "w"
  refine take_c rfl rfl (by assumption) (by assumption) (by omega) (small60 (by omega)) (by omega) ?_
  intro r4 o4 ra4 rb4 hp4
  repeat walk_at "w"
  refine gv_mono (P' := fun d => ∃ z : Int, d = .int z ∧ z ≤ 10 ^ 30) (gl_pick ra4 (by exact rb4) ?_) ?_
  · refine List.forall_mem_cons.mpr ⟨⟨_, rfl, by omega⟩, ?_⟩
    refine List.forall_mem_cons.mpr ⟨⟨_, rfl, by omega⟩, ?_⟩
    exact fun _ h => nomatch h
  rintro _ ⟨z, rfl, z1⟩
  repeat walk_at "w"
  obtain ⟨top, htop, ht1⟩ : ∃ top : Int, (if z > 1 then z else 1) = top ∧ 1 ≤ top := ⟨_, rfl, by split <;> omega⟩
  rw [htop]
  repeat walk_at "w"
  refine talk_c hI htg hss hnn ht1 ?_
  repeat walk_at "w"
  refine callT_gv rfl rfl (gv_mono (hLr ss hss) ?_)
  rintro _ rfl
  repeat walk_at "w"
  rw [len_map, show (1 + ((2 ^ ss.length : Nat) : Int) + (nn.length : Int)) = ((1 + 2 ^ ss.length + nn.length : Nat) : Int) by rw [Int.natCast_add, Int.natCast_add]; rfl]
  refine callT_gv rfl rfl (gv_mono (hRw _ (1 + 2 ^ ss.length + nn.length) o4 hp4 (by omega) (by omega)) ?_)
  rintro _ ⟨line, o5, rfl, hll, hlb, hp5⟩
  have hlb : ∀ x ∈ line, x.natAbs ≤ 10 ^ 30 := hlb
  repeat walk_at "w"
  refine len_lst (by omega) ?_
  refine cpr_drawsL (Γ := fun o => [.own o, .val (.tup [.tup (ss.map D.str), .tup (nn.map D.str)]), .val (.int top), .own (.ins 0 [.tup (ss.map D.str), .tup (nn.map D.str), .int top]), .bor (.lst (line.map D.int)), .un, .un, .un, .un, .un, .un, .un, .un]) (fun d => ∃ x : Int, d = .int x ∧ x.natAbs ≤ 10 ^ 30) (fun k o => Pl (n + 510 + 1 + 5 + 1 + 1200 + k) o) (by simpa using hp5) ?_ ?_
  · intro k d o6 hd hp6
    rw [List.getElem?_map] at hd
    obtain ⟨x, hx, rfl⟩ := Option.map_eq_some_iff.mp hd
    have hxb := hlb x (List.mem_of_getElem? hx)
    have hkl := (List.getElem?_eq_some_iff.mp hx).1
    repeat walk_at "w"
    refine take_c rfl rfl (by assumption) (by assumption) (by omega) (small60 (by omega)) (by omega) ?_
    intro r7 o7 ra7 rb7 hp7
    repeat walk_at "w"
    have h01 := b2i_01 (r7 == 0)
    refine gl_mul (mulOk_s (small60 (by omega)) (small60 (by omega))) ?_
    repeat walk_at "w"
    refine ⟨_, o7, rfl, ⟨_, rfl, ?_⟩, hp7.mono (by omega)⟩
    rcases h01 with e | e
    · rw [e]; omega
    · rw [e]; omega
  intro sps o6 hsl hsb hp6
  obtain ⟨sparse, rfl, hspb⟩ := ints_of hsb
  rw [List.length_map, List.length_map] at hsl
  repeat walk_at "w"
  refine len_lst (by omega) ?_
  refine cpr_map D.int (fun _ => .int 0) (fun x hx => ?_) ?_
  · repeat walk_at "w"
  rw [show (line.map fun _ => D.int 0) = (line.map fun _ => (0 : Int)).map D.int by rw [List.map_map]; rfl]
  repeat walk_at "w"
  refine len_lst (by omega) ?_
  refine cpr_map D.int (fun _ => .int 1) (fun x hx => ?_) ?_
  · repeat walk_at "w"
  rw [show (line.map fun _ => D.int 1) = (line.map fun _ => (1 : Int)).map D.int by rw [List.map_map]; rfl]
  repeat walk_at "w"
  have hrows : ∀ cs ∈ [line, sparse, line.map fun _ => (0 : Int), line.map fun _ => (1 : Int)], cs.length = 1 + 2 ^ ss.length + nn.length ∧ ∀ x ∈ cs, x.natAbs ≤ 10 ^ 30 := by
    refine List.forall_mem_cons.mpr ⟨⟨hll, hlb⟩, ?_⟩
    refine List.forall_mem_cons.mpr ⟨⟨by omega, hspb⟩, ?_⟩
    refine List.forall_mem_cons.mpr ⟨⟨by rw [List.length_map]; exact hll, fun x hx => ?_⟩, ?_⟩
    · obtain ⟨_, _, rfl⟩ := List.mem_map.mp hx; decide
    refine List.forall_mem_cons.mpr ⟨⟨by rw [List.length_map]; exact hll, fun x hx => ?_⟩, ?_⟩
    · obtain ⟨_, _, rfl⟩ := List.mem_map.mp hx; decide
    exact fun _ h => nomatch h
  refine for_list (fun cs : List Int => D.lst (cs.map D.int)) (xs := [line, sparse, line.map fun _ => (0 : Int), line.map fun _ => (1 : Int)]) (fun i Γ => ∃ (o' : OD) (x3 x6 x9 x10 x11 : En), Γ = [.own o', .val (.tup [.tup (ss.map D.str), .tup (nn.map D.str)]), .val (.int top), x3, .val (.lst (line.map D.int)), .val (.lst (sparse.map D.int)), x6, .un, .un, x9, x10, x11, .un] ∧ (x3 = .own (.ins 0 [.tup (ss.map D.str), .tup (nn.map D.str), .int top]) ∨ x3 = .val (talkD ss nn top)) ∧ Pl (n + 3000 + i) o') ⟨o6, _, _, _, _, _, rfl, .inl rfl, hp6.mono (by rw [List.length_map]; omega)⟩ ?_ ?_
  · rintro i row Γ hrow ⟨o', x3, x6, x9, x10, x11, rfl, hx3, hp'⟩
    have hi4 : i < 4 := (List.getElem?_eq_some_iff.mp hrow).1
    obtain ⟨hrl, hrb⟩ := hrows row (List.mem_of_getElem? hrow)
    obtain ⟨c, cs, rfl⟩ : ∃ c cs, row = c :: cs := by
      cases row with
      | nil => simp at hrl; omega
      | cons c cs => exact ⟨c, cs, rfl⟩
    have hcl : cs.length = 2 ^ ss.length + nn.length := by rw [List.length_cons] at hrl; omega
    obtain ⟨hsv1, hsv2⟩ := sumV_all (nn := nn) hss hcl hrb
    have hrowV : rowV ss nn (sumV ss nn c cs) = c :: cs := by rw [rowV_drop]; exact rowV_all hnS hnN hcl
    have hroR : RO 60 16777216 (.tup ((c :: cs).map D.int)) := RO.rowT hrb (by rw [hrl]; omega)
    have hroL : RO 60 16777216 (.lst ((c :: cs).map D.int)) := RO.rowL hrb (by rw [hrl]; omega)
    have hroS : RO 60 16777216 (.tup ((sumV ss nn c cs).map Ad.d)) := RO.ads htg.okS htg.okN (by omega) (fun a ha => ⟨(hsv2 a ha).1, Nat.le_trans (hsv2 a ha).2.1 (by decide), Nat.lt_of_le_of_lt (hsv2 a ha).2.2 (by decide)⟩)
    refine turnL_gv ?_
    refine gl_put rfl ?_
    dsimp only [List.set_cons_succ, List.set_cons_zero]
    refine gs_cons (gv_mono (P' := fun p => ∃ (o2 : OD) (x10 : En), p = (.nx, [.own o2, .val (.tup [.tup (ss.map D.str), .tup (nn.map D.str)]), .val (.int top), x3, .val (.lst (line.map D.int)), .val (.lst (sparse.map D.int)), .val (.lst ((c :: cs).map D.int)), .un, .un, x9, x10, x11, .un]) ∧ Pl (n + 3000 + i + 1) o2 ∧ (x10 = .val (.tup ((c :: cs).map D.int)) ∨ x10 = .own (.lst ((c :: cs).map D.int)))) ?_ ?_)
    · repeat walk_at "w"
      refine callT_gv rfl rfl (gv_mono (hDr _ _ o' hp' (by omega)) ?_)
      rintro _ ⟨o2, rfl | rfl, hp2⟩
      · repeat walk_at "w"
        exact ⟨o2, _, rfl, hp2, .inl rfl⟩
      · repeat walk_at "w"
        exact ⟨o2, _, rfl, hp2, .inr rfl⟩
    rintro _ ⟨o2, x10, rfl, hp2', hx10⟩
    dsimp only
    refine gs_cons (gv_mono (P' := fun p => ∃ (d : D), p = (.nx, [.own o2, .val (.tup [.tup (ss.map D.str), .tup (nn.map D.str)]), .val (.int top), x3, .val (.lst (line.map D.int)), .val (.lst (sparse.map D.int)), .val (.lst ((c :: cs).map D.int)), .un, .un, x9, x10, .val (.str (pyOf d).shown), .un]) ∧ RwD c cs d ∧ RO 60 16777216 d ∧ (x10 = .val d ∨ ∃ l, d = .lst l ∧ x10 = .own (.lst l))) ?_ ?_)
    · rcases hx10 with rfl | rfl
      · repeat walk_at "w"
        refine gl_repr hroR ?_
        repeat walk_at "w"
        exact ⟨_, rfl, .inl rfl, hroR, .inl rfl⟩
      · repeat walk_at "w"
        refine gl_repr hroL ?_
        repeat walk_at "w"
        exact ⟨_, rfl, .inr rfl, hroL, .inr ⟨_, rfl, rfl⟩⟩
    rintro _ ⟨d, rfl, hrw, hroD, hx10⟩
    dsimp only
    refine gs_cons (gv_mono (P' := fun p => p = (.nx, [.own o2, .val (.tup [.tup (ss.map D.str), .tup (nn.map D.str)]), .val (.int top), .val (talkD ss nn top), .val (.lst (line.map D.int)), .val (.lst (sparse.map D.int)), .val (.lst ((c :: cs).map D.int)), .un, .un, .val (.tup ((sumV ss nn c cs).map Ad.d)), .val d, .val (.str (pyOf d).shown), .un])) ?_ ?_)
    · rcases hx3 with rfl | rfl
      all_goals
        rcases hx10 with rfl | ⟨l, rfl, rfl⟩
        all_goals
          repeat walk_at "w"
          refine callT_gv rfl rfl (gv_mono (hSf ss nn top c cs _ hrw hss (by omega) hcl) ?_)
          rintro _ rfl
          repeat walk_at "w"
          try rfl
    rintro _ rfl
    dsimp only
    repeat walk_at "w"
    refine callT_gv rfl rfl (gv_mono (hLis ss nn (sumV ss nn c cs) (by omega) (fun a ha => ⟨(hsv2 a ha).1, Nat.le_trans (hsv2 a ha).2.1 (by decide)⟩)) ?_)
    rintro _ rfl
    repeat walk_at "w"
    refine callT_gv rfl rfl (gv_mono (hLsr ss nn (sumV ss nn c cs) hss (by omega) (by omega) (fun a ha => (hsv2 a ha).1)) ?_)
    rintro _ rfl
    repeat walk_at "w"
    rw [hrowV]
    refine gl_repr hroR ?_
    repeat walk_at "w"
    refine gl_repr hroR ?_
    repeat walk_at "w"
    rw [if_neg (by simp)]
    repeat walk_at "w"
    refine callT_gv rfl rfl (gv_mono (hSf ss nn top c cs (.tup ((c :: cs).map D.int)) (.inl rfl) hss (by omega) hcl) ?_)
    rintro _ rfl
    repeat walk_at "w"
    refine gl_repr hroS ?_
    repeat walk_at "w"
    refine gl_repr hroS ?_
    repeat walk_at "w"
    rw [if_neg (by simp)]
    repeat walk_at "w"
    refine callT_gv rfl rfl (gv_mono (hSf ss nn top c cs (.lst ((c :: cs).map D.int)) (.inr rfl) hss (by omega) hcl) ?_)
    rintro _ rfl
    repeat walk_at "w"
    refine gl_repr hroS ?_
    repeat walk_at "w"
    refine gl_repr hroS ?_
    repeat walk_at "w"
    rw [if_neg (by simp)]
    repeat walk_at "w"
    refine gl_repr hroD ?_
    repeat walk_at "w"
    rw [if_neg (by simp)]
    repeat walk_at "w"
    refine callT_gv rfl rfl (gv_mono (hIs ss nn top (sumV ss nn c cs) htg.okS (by omega) (fun a ha => ⟨(hsv2 a ha).1, Nat.le_trans (hsv2 a ha).2.1 (by decide)⟩)) ?_)
    rintro _ rfl
    repeat walk_at "x"
    refine callT_gv rfl rfl (gv_mono (hRo ss nn top (sumV ss nn c cs) hss (by omega) (by omega) (fun a ha => (hsv2 a ha).1)) ?_)
    rintro _ rfl
    repeat walk_at "w"
    rw [hrowV]
    refine gl_neP plain_tup plain_tup ?_
    rw [show deq (.tup ((c :: cs).map D.int)) (.tup (D.int c :: cs.map D.int)) = true from deq_intsT (c :: cs)]
    repeat walk_at "w"
    exact ⟨o2, _, _, _, _, _, rfl, .inr rfl, hp2'.mono (by omega)⟩
  rintro Γ ⟨o', x3, x6, x9, x10, x11, rfl, hx3, hp'⟩
  obtain ⟨c, cs, rfl⟩ : ∃ c cs, line = c :: cs := by
    cases line with
    | nil => simp at hll; omega
    | cons c cs => exact ⟨c, cs, rfl⟩
  repeat walk_at "w"
  refine gl_slcTa (k := 2) ?_
  rw [← List.map_take]
  repeat walk_at "w"
  have htg2 : TongueOk nn (ss.take 2) := ⟨htg.okN, fun s hs => htg.okS s (List.mem_of_mem_take hs), htg.upN, htg.upS.sublist (List.take_sublist _ _), fun s hs h2 => htg.apart s (List.mem_of_mem_take h2) hs⟩
  have hl2 : (ss.take 2).length ≤ 2 := by rw [List.length_take]; omega
  refine talk_c hI htg2 (by omega) hl2 ht1 ?_
  repeat walk_at "w"
  refine callT_gv rfl rfl (gv_mono (hLr nn (by omega)) ?_)
  rintro _ rfl
  repeat walk_at "w"
  refine gl_slcTa (k := 2) ?_
  rw [← List.map_take]
  repeat walk_at "w"
  rw [len_map]
  obtain ⟨ss2, hss2⟩ : ∃ x, ss.take 2 = x := ⟨_, rfl⟩
  rw [hss2] at htg2 hl2 ⊢
  have hn8 := pw3 (show nn.length ≤ 3 by omega)
  rw [show (1 + ((2 ^ nn.length : Nat) : Int) + (ss2.length : Int)) = ((1 + 2 ^ nn.length + ss2.length : Nat) : Int) by rw [Int.natCast_add, Int.natCast_add]; rfl]
  repeat walk_at "w"
  refine gl_slcLa (k := 1) ?_
  dsimp only [List.take]
  repeat walk_at "w"
  refine gl_rep (by omega) ?_
  have erep : List.replicate (1 + 2 ^ nn.length + ss2.length) c = c :: List.replicate (2 ^ nn.length + ss2.length) c := by rw [Nat.add_assoc, Nat.add_comm, List.replicate_succ]
  have hrow2 : ∀ x ∈ c :: List.replicate (2 ^ nn.length + ss2.length) c, x.natAbs ≤ 10 ^ 30 := fun x hx => by
    rcases List.mem_cons.mp hx with rfl | hx
    · exact hlb _ List.mem_cons_self
    · rw [(List.mem_replicate.mp hx).2]; exact hlb _ List.mem_cons_self
  rw [erep]
  have hrl2 : (List.replicate (2 ^ nn.length + ss2.length) c).length = 2 ^ nn.length + ss2.length := List.length_replicate
  obtain ⟨cs2, hcs2⟩ : ∃ x, List.replicate (2 ^ nn.length + ss2.length) c = x := ⟨_, rfl⟩
  rw [hcs2] at erep hrow2 hrl2 ⊢
  obtain ⟨hsv1, hsv2⟩ := sumV_all (nn := ss2) (by omega) hrl2 hrow2
  have hrowV : rowV nn ss2 (sumV nn ss2 c cs2) = c :: cs2 := by rw [rowV_drop]; exact rowV_all hnN (up_nodup htg2.upN) hrl2
  have hroR : RO 60 16777216 (.tup ((c :: cs2).map D.int)) := RO.rowT hrow2 (by rw [List.length_cons]; omega)
  repeat walk_at "w"
  refine callT_gv rfl rfl (gv_mono (hSf nn ss2 top c cs2 (.lst ((c :: cs2).map D.int)) (.inr rfl) (by omega) (by omega) hrl2) ?_)
  rintro _ rfl
  repeat walk_at "w"
  refine gl_slcTa (k := 2) ?_
  rw [← List.map_take, hss2]
  repeat walk_at "w"
  refine callT_gv rfl rfl (gv_mono (hLsr nn ss2 (sumV nn ss2 c cs2) (by omega) (by omega) (by omega) (fun a ha => (hsv2 a ha).1)) ?_)
  rintro _ rfl
  repeat walk_at "w"
  rw [hrowV]
  refine gl_repr hroR ?_
  repeat walk_at "w"
  refine gl_slcLa (k := 1) ?_
  dsimp only [List.take]
  repeat walk_at "w"
  refine gl_rep (by omega) ?_
  rw [erep]
  repeat walk_at "w"
  refine gl_repr hroR ?_
  repeat walk_at "w"
  exact gv_is rfl ⟨_, Prod.ext (by simp) rfl⟩
/-! ### law -/
theorem backs_f {o : OD} {is : In} {os : List Out} {Γ : G} : backs [.fr o] [is] os Γ = Γ := by cases os <;> rfl
theorem lawS {C : Mi.Ctx} (hFo : FoldS (C.ft 16)) (hPo : PoolS (C.ft 14)) (hR : RightS (C.ft 31)) (ns : List Int) : Gv (runD C t32 [.val (.scr (ns.map D.int))]) fun q => q.1 = .val (.bl true) := by
  refine gd_run rfl ?_
  show Gv (exs C b32 [.val (.scr (ns.map D.int)), .un, .un]) _
  unfold b32
  repeat walk_at "w"
  refine callT_gv rfl rfl (gv_mono (hFo ns 4 (by decide) (by decide)) ?_)
  rintro ⟨q1, q2⟩ ⟨cells, rfl, hcl⟩
  rw [backs_vv]
  have hcl2 : cells.length ≤ 4 := hcl
  repeat walk_at "w"
  rw [len_map]
  refine rng_i (by omega) (by omega) ?_
  refine len_rng (by omega) ?_
  refine cprL_gv (fun i acc Γ => acc = (List.replicate i true).map D.bl ∧ ∃ x1, Γ = [.val (.scr (ns.map D.int)), x1, .un] ∧ (x1 = .own (.lst (cells.map D.int)) ∨ x1 = .val (.lst (cells.map D.int)))) ⟨rfl, _, rfl, .inl rfl⟩ ?_ ?_
  · rintro i d acc Γ hd ⟨rfl, x1, rfl, hx1⟩
    obtain ⟨rfl, hi⟩ := range_at hd
    rcases hx1 with rfl | rfl
    all_goals
      refine turnK_gv ?_
      repeat walk_at "w"
      refine callT_gv rfl rfl (gv_mono (hPo cells i hi (by omega)) ?_)
      rintro ⟨q1, q2⟩ ⟨o, rfl, hp⟩
      rw [backs_vv]
      repeat walk_at "w"
      refine callT_gv rfl rfl (gv_mono (hR _ o hp (by omega)) ?_)
      rintro _ ⟨os, rfl⟩
      rw [backs_f]
      repeat walk_at "w"
      refine ⟨?_, _, rfl, .inr rfl⟩
      rw [List.replicate_succ', List.map_append]
      rfl
  · rintro acc Γ ⟨rfl, x1, rfl, hx1⟩
    repeat walk_at "w"
    exact gv_is rfl (by simp)
abbrev WF : Nat := 10
abbrev rn := run glD WF tms kdD
theorem rT (n : Nat) : TakeS (rn (n + 1) 15) := takeS _
theorem rFo (n : Nat) : FoldS (rn (n + 1) 16) := fun ns t h1 h2 => fold_ok _ h1 h2
theorem rP (n : Nat) : PoolS (rn (n + 1) 14) := fun ns k h1 h2 => pool_ok _ h1 h2
theorem rNs (n : Nat) : NamesS (rn (n + 2) 17) := namesS (rT n)
theorem rTo (n : Nat) : TongueS (rn (n + 3) 18) := tongueS (rT (n + 1)) (rNs n)
theorem rG (n : Nat) : G9S (rn (n + 2) 22) := g9S (rT n)
theorem rNb (n : Nat) : NbS (rn (n + 3) 23) := nbS (rT (n + 1)) (rG n)
theorem rRw (n : Nat) : RwS (rn (n + 4) 24) := rwS (rNb n)
theorem rDr (n : Nat) : DrS (rn (n + 2) 25) := drS (rT n)
theorem rNm (n : Nat) : NmT (rn (n + 1) 2) := nmT rfl
theorem rAr (n : Nat) : ArS (rn (n + 2) 3) := arS (rNm n)
theorem rIw (n : Nat) : IsW (rn (n + 1) 1) := isW
theorem rIw3 (n : Nat) : IwS (rn (n + 1) 1) := iwS
theorem rI (n : Nat) : InitS (rn (n + 3) 33) := initS rfl (rAr n) (rIw (n + 1))
theorem rRg (n : Nat) : RegS (rn (n + 1) 34) := regS
theorem rNu (n : Nat) : NumsS (rn (n + 1) 35) := numsS
theorem rSt (n : Nat) : SetsS (rn (n + 1) 38) := setsS
theorem rNe (n : Nat) : NeedS (rn (n + 2) 40) := needS (rIw3 n) (rRg n)
theorem rLi (n : Nat) : LieS (rn (n + 3) 39) := lieS (rNe n)
theorem rAl (n : Nat) : AloS (rn (n + 4) 8) := aloS (rSt (n + 2)) (rLi n)
theorem rTm (n : Nat) : TrmS (rn (n + 5) 9) := trmS (rIw3 (n + 3)) (rRg (n + 3)) (rAl n)
theorem rSf (n : Nat) : SfrS (rn (n + 6) 13) := sfrS (rRg (n + 4)) (rNu (n + 4)) (rTm n)
theorem rLi' (n : Nat) (h : 3 ≤ n) : LieS (rn n 39) := by obtain ⟨j, rfl⟩ : ∃ j, n = j + 3 := ⟨n - 3, by omega⟩; exact rLi j
theorem rHol : ∀ k n : Nat, k + 3 ≤ n → HolS k (rn n 6)
  | 0, _, _ => holS0 _
  | k + 1, n + 1, h => holS (rLi' n (by omega)) (rHol k n (by omega))
theorem rSt' (n : Nat) (h : 1 ≤ n) : SetsS (rn n 38) := by obtain ⟨j, rfl⟩ : ∃ j, n = j + 1 := ⟨n - 1, by omega⟩; exact rSt j
theorem rPrt : ∀ k n : Nat, k + 1 ≤ n → PrtS k (rn n 4)
  | 0, _, _ => prtS0 _
  | k + 1, n + 1, h => prtS rfl (rSt' n (by omega)) (rPrt k n (by omega))
theorem rLpr : ∀ k n : Nat, k ≤ n → LprS k (rn n 28)
  | 0, _, _ => lprS0 _
  | k + 1, n + 1, h => lprS (rLpr k n (by omega))
theorem rLl (n : Nat) (h : 1 ≤ n) : LawLieS (rn n 19) := by obtain ⟨j, rfl⟩ : ∃ j, n = j + 1 := ⟨n - 1, by omega⟩; exact lawLieS
theorem rLin : ∀ k n : Nat, k + 1 ≤ n → LinS k (rn n 20)
  | 0, _, _ => linS0 _
  | k + 1, n + 1, h => linS (rLl n (by omega)) (rLin k n (by omega))
theorem rPl (n : Nat) : PlcS (rn (n + 2) 37) := plcS (rRg n)
theorem rLe (n : Nat) : LenS (rn (n + 2) 36) := lenS (rRg n)
theorem rRgs : RgsS (rn 37 7) := rgsS (rRg 35) (rHol 12 36 (by decide))
theorem rRo : RowS (rn 38 12) := rowS (rLe 34) (rPl 35) rRgs
theorem rIst : IstS (rn 36 5) := istS rfl (rPrt 12 35 (by decide))
theorem rIad : IadS (rn 37 10) := iadS (rIw3 35) (rNu 35) rIst
theorem rIsu : IsuS (rn 38 11) := isuS rfl rIad
theorem rLw (n : Nat) : LW (rn (n + 1) 21) := lW
theorem rLia : LiaS (rn 37 29) := liaS (rLw 35) (rLpr 12 36 (by decide))
theorem rLis : LisS (rn 38 30) := lisS rLia
theorem rLr (n : Nat) : LrgS (rn (n + 1) 26) := lrgS
theorem rLsr : LsrS (rn 38 27) := lsrS (rLr 36) (rLin 12 37 (by decide))
theorem rRight : RightS (rn 39 31) := rightS (rT 37) (rTo 35) (rG 36) (rI 34) (rLr 37) (rRw 34) (rDr 36) (rSf 32) rLis rLsr rIsu rRo
theorem meaning : ∀ ns : List Int, ns.length ≤ 63 → ∃ wf os, run glD wf tms kdD 40 32 [.val (.scr (ns.map D.int))] = some (.val (.bl true), os) := by
  intro ns _
  obtain ⟨⟨r, os⟩, e, h⟩ := lawS (C := { ft := rn 39, gl := glD, wf := WF, fi := rn 38, kd := kdD }) (rFo 38) (rP 38) rRight ns
  exact ⟨WF, os, by cases h; exact e⟩

end Lk12

theorem PySem.Challenge.cw_countfold_k12_sums_for_rows_holds : PySem.Challenge.rw_countfold_k12_sums_for_rows.Holds :=
  Lk12.pre Lk12.meaning
