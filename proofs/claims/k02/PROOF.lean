import PyProof.Rows.All
import Wide.All
import OpenK.AllK
import Wide.FinOn
import HandS.ForMost
import HandS.ForExc
import HandS.Walk
import HandS.TupAny
import HandS.Wide
import HandS.SetKeys
import HandS.Deep
import HandS.TupLe
import HandS.Style
import HandS.IsInst
import HandS.ReCall
import HandS.More
import HandS.Zip
import HandS.ExcInit
import HandS.ExcField
import HandS.TryMany
import HandS.Defaults
import HandS.WordsExc
import HandS.Comp
import HandS.DictComp
import KE.GoesEnumKw
import HandS.Head0
import HandS.Head1
import HandS.Head2
import HandS.HeadEnd
import HandS.HeadHook1
import HandS.HeadHook2
import KE.KSuper
import HandS.ReplaceDef
import HandS.List
import HandS.Strs
import HandS.Conv
import PySem.Challenge.RW_toldonward_k02_whole_reasons_and_levers
import KE.KStateDown
import Lean
set_option Elab.async false
set_option linter.all false
set_option maxRecDepth 100000
set_option maxHeartbeats 4000000
/-! DL1: data trees over the hand layer: values, the store, what stands for what, judgements; names, constants, operators, displays, blocks. -/
namespace DL
open PySem L2

/-- a Python value: tuples by value, read-only lists (the script) by value, mutable objects by address -/
inductive D where
  | non | bl (b : Bool) | int (i : Int) | str (x : Str) | tp (f : Bool) (xs : List D) | rol (xs : List D) | ref (a : Addr) | ty (n : String) | rod (ks : List (List Key)) (xs : List D)
/-- a tuple; .tp true: a tuple that is known to have no dict, and is never a key -/
abbrev D.tup (xs : List D) : D := .tp false xs
/-- a mutable object -/
inductive O where
  | lst (xs : List D) | dic (kvs : List (Key × D)) | dit (kvs : List (List Key × D)) | set (S : Key → Bool) (n : Nat) | ins (C : Addr) (fs : List (Str × D))
abbrev Sto := Addr → Option O
def put (S : Sto) (a : Addr) (o : O) : Sto := fun b => if b = a then some o else S b
theorem put_same {S : Sto} {a : Addr} {o : O} : put S a o a = some o := by unfold put; rw [if_pos rfl]
theorem put_ne {S : Sto} {a b : Addr} {o : O} (h : b ≠ a) : put S a o b = S b := by unfold put; rw [if_neg h]

/-! ### what stands for what -/
/-- what never changes stays -/
structure Le (H H' : Hp) : Prop where
  tup : ∀ a xs, H a = some (.tup xs) → H' a = some (.tup xs)
  frz : ∀ a o u, H a = some (.frz o u) → H' a = some (.frz o u)
  xd : ∀ a fs, H a = some (.xd fs) → H' a = some (.xd fs)
theorem Le.refl (H : Hp) : Le H H := ⟨fun _ _ h => h, fun _ _ _ h => h, fun _ _ h => h⟩
theorem Le.trans {H H1 H2 : Hp} (a : Le H H1) (b : Le H1 H2) : Le H H2 := ⟨fun x xs h => b.tup x xs (a.tup x xs h), fun x o u h => b.frz x o u (a.frz x o u h), fun x fs h => b.xd x fs (a.xd x fs h)⟩
theorem Le.new {H : Hp} {p : Addr} {o : HO} (h : H p = none) : Le H (upd H p o) := ⟨fun a xs e => by rw [upd_ne (ne_of_none e h)]; exact e, fun a ob u e => by rw [upd_ne (ne_of_none e h)]; exact e, fun a fs e => by rw [upd_ne (ne_of_none e h)]; exact e⟩
theorem Le.mut {H : Hp} {p : Addr} {o : HO} (h : Mut (H p)) : Le H (upd H p o) := ⟨fun a xs e => by
    rw [upd_ne (fun q => by subst q; rw [e] at h; exact h)]; exact e, fun a ob u e => by
    rw [upd_ne (fun q => by subst q; rw [e] at h; exact h)]; exact e, fun a fs e => by
    rw [upd_ne (fun q => by subst q; rw [e] at h; exact h)]; exact e⟩
theorem SqT_le {K : PySem.W.Frag} {H H' : Hp} {a : Addr} {xs : List V} (l : Le H H') (h : SqT K H a xs) : SqT K H' a xs := by
  rcases h with (h | ⟨o, h⟩) | h
  · exact .inl (.inl (l.tup a xs h))
  · exact .inl (.inr ⟨o, l.frz a o _ h⟩)
  · exact .inr h
/-- a list that is read and never changes -/
def RoL (K : PySem.W.Frag) (H : Hp) (a : Addr) (xs : List V) : Prop := (∃ o, H a = some (.frz o (.lst xs))) ∨
  ∃ (o : Obj) (its : Array Value) (n : Nat), K.lookup a = some o ∧ o.cls = .type "list" ∧ o.dict = none ∧ o.data = .seq its n ∧ its.size ≤ sizeLine ∧ Vals xs its.toList
theorem RoL.sq {K : PySem.W.Frag} {H : Hp} {a : Addr} {xs : List V} (h : RoL K H a xs) : SqL K H a xs := by
  rcases h with ⟨o, h⟩ | h
  · exact .inl (.inr ⟨o, h⟩)
  · exact .inr h
theorem RoL.le {K : PySem.W.Frag} {H H' : Hp} {a : Addr} {xs : List V} (l : Le H H') (h : RoL K H a xs) : RoL K H' a xs := by
  rcases h with ⟨o, h⟩ | h
  · exact .inl ⟨o, l.frz a o _ h⟩
  · exact .inr h
theorem RoL.of {K : PySem.W.Frag} {H : Hp} {a : Addr} {xs : List V} (hO : Only H) (h : SqL K H a xs) : RoL K H a xs := by
  rcases h with (h | ⟨o, h⟩) | h
  · rcases hO a with e | ⟨o, ys, e⟩ <;> rw [e] at h <;> cases h
  · exact .inl ⟨o, h⟩
  · exact .inr h

/-- a text that is well: its code points, its length -/
def OkS (x : Str) : Prop := PyData.strOk x = true ∧ x.length ≤ sizeLine
def kD : Key → D
  | .inl i => .int i
  | .inr x => .str x
def okK : Key → Prop
  | .inl _ => True
  | .inr x => OkS x
def TF (H : Hp) (a : Addr) (vs : List V) : Bool → Prop
  | false => H a = some (.tup vs)
  | true => ∃ o, H a = some (.frz o (.tup vs)) ∧ o.dict = none
theorem TF.le {H H' : Hp} {a : Addr} {vs : List V} {f : Bool} (l : Le H H') (h : TF H a vs f) : TF H' a vs f := by
  cases f with
  | false => exact l.tup _ _ h
  | true =>
    obtain ⟨o, e, z⟩ := h
    exact ⟨o, l.frz _ _ _ e, z⟩
mutual
inductive DV (K : PySem.W.Frag) (H : Hp) : D → V → Prop
  | non : DV K H .non .non
  | bl (b : Bool) : DV K H (.bl b) (.bl b)
  | int (i : Int) : DV K H (.int i) (.int i)
  | str (x : Str) : OkS x → DV K H (.str x) (.str x)
  | ty (n : String) : DV K H (.ty n) (.ty n)
  | tup {a : Addr} {vs : List V} {ds : List D} {f : Bool} : SqT K H a vs → DVs K H ds vs → TF H a vs f → DV K H (.tp f ds) (.ref a)
  | rol {a : Addr} {vs : List V} {ds : List D} : RoL K H a vs → DVs K H ds vs → DV K H (.rol ds) (.ref a)
  | ref (a : Addr) : DV K H (.ref a) (.ref a)
  | rod {a : Addr} {vs : List V} {ks : List (List Key)} {ds : List D} : (∃ o, H a = some (.frz o (.dT (ks.zip vs)))) → ks.length = vs.length → (∀ k ∈ ks, ∀ x ∈ k, okK x) → DVs K H ds vs → DV K H (.rod ks ds) (.ref a)
inductive DVs (K : PySem.W.Frag) (H : Hp) : List D → List V → Prop
  | nil : DVs K H [] []
  | cons {d : D} {ds : List D} {v : V} {vs : List V} : DV K H d v → DVs K H ds vs → DVs K H (d :: ds) (v :: vs)
end
section
variable {K : PySem.W.Frag} {H H' : Hp}
mutual
theorem DV.le (l : Le H H') : ∀ (d : D) (v : V), DV K H d v → DV K H' d v
  | .non, _, h => by cases h; exact .non
  | .bl b, _, h => by cases h; exact .bl b
  | .int b, _, h => by cases h; exact .int b
  | .str b, _, h => by
    cases h with
    | str _ ok => exact .str b ok
  | .ty b, _, h => by cases h; exact .ty b
  | .ref b, _, h => by cases h; exact .ref b
  | .tp f ds, _, h => by
    cases h with
    | tup hs hd ht => exact .tup (SqT_le l hs) (DVs.le l ds _ hd) (ht.le l)
  | .rol ds, _, h => by
    cases h with
    | rol hs hd => exact .rol (RoL.le l hs) (DVs.le l ds _ hd)
  | .rod ks ds, _, h => by
    cases h with
    | rod hs hl hk hd =>
      obtain ⟨o, hs⟩ := hs
      exact .rod ⟨o, l.frz _ _ _ hs⟩ hl hk (DVs.le l ds _ hd)
theorem DVs.le (l : Le H H') : ∀ (ds : List D) (vs : List V), DVs K H ds vs → DVs K H' ds vs
  | [], _, h => by cases h; exact .nil
  | d :: ds, _, h => by
    cases h with
    | cons h1 h2 => exact .cons (DV.le l d _ h1) (DVs.le l ds _ h2)
end
theorem DVs.length {ds : List D} {vs : List V} (h : DVs K H ds vs) : ds.length = vs.length := by
  induction ds generalizing vs with
  | nil => cases h; rfl
  | cons d ds ih => cases h with
    | cons h1 h2 => simp [ih h2]
theorem DVs.get {ds : List D} {vs : List V} (h : DVs K H ds vs) {i : Nat} {d : D} (e : ds[i]? = some d) : ∃ v, vs[i]? = some v ∧ DV K H d v := by
  induction ds generalizing vs i with
  | nil => simp at e
  | cons x ds ih => cases h with
    | cons h1 h2 =>
      cases i with
      | zero => simp at e; subst e; exact ⟨_, rfl, h1⟩
      | succ i =>
        obtain ⟨v, e1, e2⟩ := ih h2 (i := i) (by simpa using e)
        exact ⟨v, by simpa using e1, e2⟩
theorem DVs.append {ds es : List D} {vs us : List V} (h : DVs K H ds vs) (h' : DVs K H es us) : DVs K H (ds ++ es) (vs ++ us) := by
  induction ds generalizing vs with
  | nil => cases h; exact h'
  | cons d ds ih => cases h with
    | cons h1 h2 => exact .cons h1 (ih h2)
theorem DVs.take {ds : List D} {vs : List V} (h : DVs K H ds vs) (n : Nat) : DVs K H (ds.take n) (vs.take n) := by
  induction ds generalizing vs n with
  | nil => cases h; simp; exact .nil
  | cons d ds ih => cases h with
    | cons h1 h2 => cases n with
      | zero => exact .nil
      | succ n => exact .cons h1 (ih h2 n)
theorem DVs.drop {ds : List D} {vs : List V} (h : DVs K H ds vs) (n : Nat) : DVs K H (ds.drop n) (vs.drop n) := by
  induction ds generalizing vs n with
  | nil => cases h; simp; exact .nil
  | cons d ds ih => cases h with
    | cons h1 h2 => cases n with
      | zero => exact .cons h1 h2
      | succ n => exact ih h2 n
theorem DVs.set {ds : List D} {vs : List V} {d : D} {v : V} (h : DVs K H ds vs) (h1 : DV K H d v) (n : Nat) : DVs K H (ds.set n d) (vs.set n v) := by
  induction ds generalizing vs n with
  | nil => cases h; exact .nil
  | cons x ds ih => cases h with
    | cons h2 h3 => cases n with
      | zero => exact .cons h1 h3
      | succ n => exact .cons h2 (ih h3 n)
theorem DVs.reverse {ds : List D} {vs : List V} (h : DVs K H ds vs) : DVs K H ds.reverse vs.reverse := by
  induction ds generalizing vs with
  | nil => cases h; exact .nil
  | cons d ds ih => cases h with
    | cons h1 h2 =>
      rw [List.reverse_cons, List.reverse_cons]
      exact (ih h2).append (.cons h1 .nil)
theorem DVs.eraseIdx {ds : List D} {vs : List V} (h : DVs K H ds vs) (n : Nat) : DVs K H (ds.eraseIdx n) (vs.eraseIdx n) := by
  induction ds generalizing vs n with
  | nil => cases h; exact .nil
  | cons x ds ih => cases h with
    | cons h2 h3 => cases n with
      | zero => exact h3
      | succ n => exact .cons h2 (ih h3 n)
theorem DV.non_iff {d : D} {v : V} (h : DV K H d v) : (v = .non) ↔ d = .non := by
  cases h <;> simp
end

/-- pairs of a key and a value -/
inductive KVs (K : PySem.W.Frag) (H : Hp) {κ : Type} : List (κ × D) → List (κ × V) → Prop
  | nil : KVs K H [] []
  | cons {k : κ} {d : D} {v : V} {ds : List (κ × D)} {vs : List (κ × V)} : DV K H d v → KVs K H ds vs → KVs K H ((k, d) :: ds) ((k, v) :: vs)
theorem KVs.le {K : PySem.W.Frag} {H H' : Hp} {κ : Type} {ds : List (κ × D)} {vs : List (κ × V)} (l : Le H H') (h : KVs K H ds vs) : KVs K H' ds vs := by
  induction h with
  | nil => exact .nil
  | cons h1 _ ih => exact .cons (h1.le l) ih
theorem KVs.length {K : PySem.W.Frag} {H : Hp} {κ : Type} {ds : List (κ × D)} {vs : List (κ × V)} (h : KVs K H ds vs) : ds.length = vs.length := by
  induction h with
  | nil => rfl
  | cons _ _ ih => simp [ih]
/-- the object at a is o -/
def OOk (K : PySem.W.Frag) (P : Program) (w : World) (H : Hp) (a : Addr) : O → Prop
  | .lst ds => ∃ vs, H a = some (.lst vs) ∧ DVs K H ds vs
  | .dic kvs => ∃ vs, H a = some (.dK vs) ∧ KVs K H kvs vs
  | .dit kvs => ∃ vs, H a = some (.dT vs) ∧ KVs K H kvs vs
  | .set f n => H a = some (SetK P w a f n)
  | .ins C fs => ∃ dx vs, H a = some (.ins C dx vs) ∧ KVs K H fs vs
/-- the store stands in the heap -/
def Rp (K : PySem.W.Frag) (P : Program) (w : World) (S : Sto) (H : Hp) : Prop := ∀ a o, S a = some o → OOk K P w H a o
/-- the slots -/
abbrev Slo := List (Option D)
structure EnvR (K : PySem.W.Frag) (H : Hp) (env : Slo) (σ : L2.St) : Prop where
  len : env.length = σ.length
  at_ : ∀ (i : Nat) (d : D), env[i]? = some (some d) → ∃ v : V, σ[i]? = some (some v) ∧ DV K H d v
section
variable {K : PySem.W.Frag} {P : Program} {w : World} {S : Sto} {H H' : Hp} {env : Slo} {σ : L2.St} {a : Addr} {o : O}
theorem OOk.some (h : OOk K P w H a o) : ∃ u, H a = some u ∧ Mut (some u) := by
  cases o with
  | lst => obtain ⟨vs, e, _⟩ := h; exact ⟨_, e, trivial⟩
  | dic => obtain ⟨vs, e, _⟩ := h; exact ⟨_, e, trivial⟩
  | dit => obtain ⟨vs, e, _⟩ := h; exact ⟨_, e, trivial⟩
  | set => exact ⟨_, h, trivial⟩
  | ins => obtain ⟨dx, vs, e, _⟩ := h; exact ⟨_, e, trivial⟩
theorem OOk.at (h : OOk K P w H a o) (l : Le H H') (e : H' a = H a) : OOk K P w H' a o := by
  cases o with
  | lst => obtain ⟨vs, q, z⟩ := h; exact ⟨vs, e.trans q, z.le l⟩
  | dic => obtain ⟨vs, q, z⟩ := h; exact ⟨vs, e.trans q, z.le l⟩
  | dit => obtain ⟨vs, q, z⟩ := h; exact ⟨vs, e.trans q, z.le l⟩
  | set => exact e.trans h
  | ins => obtain ⟨dx, vs, q, z⟩ := h; exact ⟨dx, vs, e.trans q, z.le l⟩
theorem Rp.free (r : Rp K P w S H) (h : H a = none) : S a = none := by
  cases e : S a with
  | none => rfl
  | some o =>
    obtain ⟨u, q, _⟩ := (r a o e).some
    rw [h] at q; cases q
/-- a new object -/
theorem Rp.new {u : HO} (r : Rp K P w S H) (h : H a = none) (n : OOk K P w (upd H a u) a o) : Rp K P w (put S a o) (upd H a u) := fun b ob e => by
  by_cases hb : b = a
  · subst hb; rw [put_same] at e; cases e; exact n
  · rw [put_ne hb] at e
    exact (r b ob e).at (Le.new h) (upd_ne hb)
/-- a new object that the store does not know -/
theorem Rp.more {u : HO} (r : Rp K P w S H) (h : H a = none) : Rp K P w S (upd H a u) := fun b ob e => by
  obtain ⟨z, q, _⟩ := (r b ob e).some
  exact (r b ob e).at (Le.new h) (upd_ne (ne_of_none q h))
/-- an object is written -/
theorem Rp.wr {u : HO} (r : Rp K P w S H) (h : Mut (H a)) (n : OOk K P w (upd H a u) a o) : Rp K P w (put S a o) (upd H a u) := fun b ob e => by
  by_cases hb : b = a
  · subst hb; rw [put_same] at e; cases e; exact n
  · rw [put_ne hb] at e
    exact (r b ob e).at (Le.mut h) (upd_ne hb)
theorem EnvR.le (r : EnvR K H env σ) (l : Le H H') : EnvR K H' env σ := ⟨r.len, fun i d e => by
  obtain ⟨v, q, z⟩ := r.at_ i d e
  exact ⟨v, q, z.le l⟩⟩
theorem EnvR.set {d : D} {v : V} (r : EnvR K H env σ) (h : DV K H d v) (i : Nat) : EnvR K H (env.set i (some d)) (σ.set i (some v)) := ⟨by simp [r.len], fun j e q => by
  by_cases hj : j = i
  · subst hj
    have hl : j < env.length := by
      have := (List.getElem?_eq_some_iff.mp q).1
      simpa using this
    rw [List.getElem?_set_self hl] at q
    cases q
    exact ⟨v, List.getElem?_set_self (by rw [← r.len]; exact hl), h⟩
  · rw [List.getElem?_set_ne (Ne.symm hj)] at q ⊢
    exact r.at_ j e q⟩
theorem EnvR.unset (r : EnvR K H env σ) (i : Nat) : EnvR K H (env.set i none) (σ.set i none) := ⟨by simp [r.len], fun j e q => by
  by_cases hj : j = i
  · subst hj
    have hl : j < env.length := by
      have := (List.getElem?_eq_some_iff.mp q).1
      simpa using this
    rw [List.getElem?_set_self hl] at q
    cases q
  · rw [List.getElem?_set_ne (Ne.symm hj)] at q ⊢
    exact r.at_ j e q⟩
end

/-! ### the judgements -/
abbrev DQ := D → Sto → Prop
abbrev EM := Slo → Sto → DQ → Prop
abbrev TM := Slo → Sto → (Bool → Sto → Prop) → Prop
abbrev AM := Slo → Sto → (List D → Sto → Prop) → Prop
/-- what is wanted of an exception: its class, its fields, the slots, the store -/
abbrev XW := Value → List (Str × D) → Slo → Sto → Prop
structure Fin where
  nx : Slo → Sto → Prop
  rt : DQ
  bk : Slo → Sto → Prop := fun _ _ => False
  ct : Slo → Sto → Prop := fun _ _ => False
abbrev SM := Fin → Slo → Sto → Prop

section
variable (K : PySem.W.Frag) (P : Program) (w : World) (B : Hp)
/-- the wish over the store, as one over the heap -/
def dnE (H : Hp) (Q : VK) : DQ := fun d S' => ∀ v H', Le H H' → Rp K P w S' H' → DV K H' d v → Q v H'
def up (m : EM) : TE := fun σ H Q => Le B H ∧ ∃ env S, EnvR K H env σ ∧ Rp K P w S H ∧ m env S (dnE K P w H Q)
def upT (m : TM) : TT := fun σ H Q => Le B H ∧ ∃ env S, EnvR K H env σ ∧ Rp K P w S H ∧ m env S fun b S' => ∀ H', Le H H' → Rp K P w S' H' → Q b H'
def upA (m : AM) : TA := fun σ H Q => Le B H ∧ ∃ env S, EnvR K H env σ ∧ Rp K P w S H ∧ m env S fun ds S' => ∀ vs H', Le H H' → Rp K P w S' H' → DVs K H' ds vs → Q vs H'
def dnF (H : Hp) (D : Ends) : Fin where
  nx := fun env S' => ∀ σ H', Le H H' → EnvR K H' env σ → Rp K P w S' H' → D.nx σ H'
  rt := dnE K P w H D.rt
  bk := fun env S' => ∀ σ H', Le H H' → EnvR K H' env σ → Rp K P w S' H' → D.bk σ H'
  ct := fun env S' => ∀ σ H', Le H H' → EnvR K H' env σ → Rp K P w S' H' → D.ct σ H'
def upS (m : SM) : TS := fun D σ H => Le B H ∧ ∃ env S, EnvR K H env σ ∧ Rp K P w S H ∧ m (dnF K P w H D) env S
/-- an exception's fields -/
def XdR (H : Hp) (d : Option Addr) (fs : List (Str × D)) : Prop := match d with
  | some a => ∃ vs, H a = some (.xd vs) ∧ KVs K H fs vs
  | none => fs = []
def upW (W : XW) : WX := fun cls d σ H => Le B H ∧ ∃ env S fs, EnvR K H env σ ∧ Rp K P w S H ∧ XdR K H d fs ∧ W cls fs env S
end
/-- the wish may be weakened -/
def MonE (m : EM) : Prop := ∀ env S (Q Q' : DQ), (∀ d S, Q d S → Q' d S) → m env S Q → m env S Q'
def MonT (m : TM) : Prop := ∀ env S (Q Q' : Bool → Sto → Prop), (∀ d S, Q d S → Q' d S) → m env S Q → m env S Q'
def MonA (m : AM) : Prop := ∀ env S (Q Q' : List D → Sto → Prop), (∀ d S, Q d S → Q' d S) → m env S Q → m env S Q'
structure FinLe (A B : Fin) : Prop where
  nx : ∀ e S, A.nx e S → B.nx e S
  rt : ∀ d S, A.rt d S → B.rt d S
  bk : ∀ e S, A.bk e S → B.bk e S
  ct : ∀ e S, A.ct e S → B.ct e S
def MonS (m : SM) : Prop := ∀ A B env S, FinLe A B → m A env S → m B env S
structure ME (X : Cx) (B : Hp) (e : Expr) (m : EM) : Prop where
  pe : PE X e (up X.K X.prog X.w B m)
  mono : MonE m
structure MT (X : Cx) (B : Hp) (e : Expr) (m : TM) : Prop where
  pt : PT X e (upT X.K X.prog X.w B m)
  mono : MonT m
structure MA (X : Cx) (B : Hp) (es : List Expr) (m : AM) : Prop where
  pa : PA X es (upA X.K X.prog X.w B m)
  mono : MonA m
structure MS (X : Cx) (B : Hp) (st : Stmt) (m : SM) : Prop where
  ps : PS X st (upS X.K X.prog X.w B m)
  mono : MonS m
structure MSs (X : Cx) (B : Hp) (st : List Stmt) (m : SM) : Prop where
  ps : PSs X st (upS X.K X.prog X.w B m)
  mono : MonS m
theorem pe_imp {X : Cx} {e : Expr} {t t' : TE} (h : PE X e t) (i : ∀ σ H Q, t' σ H Q → t σ H Q) : PE X e t' := ⟨fun pins s σ H Q I q => h.run pins s σ H Q I (i σ H Q q)⟩
theorem pt_imp {X : Cx} {e : Expr} {t t' : TT} (h : PT X e t) (i : ∀ σ H Q, t' σ H Q → t σ H Q) : PT X e t' := ⟨fun pins s σ H Q I q => h.run pins s σ H Q I (i σ H Q q)⟩
theorem pw_imp {X : Cx} {e : Expr} {t t' : TT} (h : PW X e t) (i : ∀ σ H Q, t' σ H Q → t σ H Q) : PW X e t' := ⟨fun wh pins s σ H Q I q => h.run wh pins s σ H Q I (i σ H Q q)⟩
theorem pa_imp {X : Cx} {e : List Expr} {t t' : TA} (h : PA X e t) (i : ∀ σ H Q, t' σ H Q → t σ H Q) : PA X e t' := ⟨fun pos pins s σ H Q I q => h.run pos pins s σ H Q I (i σ H Q q)⟩
theorem ps_imp {X : Cx} {e : Stmt} {t t' : TS} (h : PS X e t) (i : ∀ D σ H, t' D σ H → t D σ H) : PS X e t' := ⟨fun pins s σ H D I q => h.run pins s σ H D I (i D σ H q)⟩
theorem pss_imp {X : Cx} {e : List Stmt} {t t' : TS} (h : PSs X e t) (i : ∀ D σ H, t' D σ H → t D σ H) : PSs X e t' := ⟨fun pins s σ H D I q => h.run pins s σ H D I (i D σ H q)⟩
section
variable {K : PySem.W.Frag} {P : Program} {w : World} {H H' : Hp}
theorem dnE_le {Q : VK} (l : Le H H') : ∀ d S, dnE K P w H Q d S → dnE K P w H' Q d S := fun _ _ h v H2 l2 r z => h v H2 (l.trans l2) r z
theorem dnF_le {D : Ends} (l : Le H H') : FinLe (dnF K P w H D) (dnF K P w H' D) :=
  ⟨fun _ _ h σ H2 l2 e r => h σ H2 (l.trans l2) e r, dnE_le l, fun _ _ h σ H2 l2 e r => h σ H2 (l.trans l2) e r, fun _ _ h σ H2 l2 e r => h σ H2 (l.trans l2) e r⟩
theorem FinLe.refl (A : Fin) : FinLe A A := ⟨fun _ _ h => h, fun _ _ h => h, fun _ _ h => h, fun _ _ h => h⟩
end

/-! ### names, constants -/
section
variable {X : Cx} {B : Hp}
def mVar (i : Nat) : EM := fun env S Q => match env[i]? with
  | some (some d) => Q d S
  | _ => False
theorem me_var (i : Nat) {x : Str} {pos : Pos} (h : PE X (.Name x pos) (tVar i)) : ME X B (.Name x pos) (mVar i) := by
  refine ⟨pe_imp h fun σ H Q q => ?_, fun env S Q Q' i h => ?_⟩
  · obtain ⟨_, env, S, r, z, q⟩ := q
    unfold mVar at q
    split at q
    · rename_i d e
      obtain ⟨v, e1, e2⟩ := r.at_ i d e
      exact ⟨v, e1, q v H (Le.refl H) z e2⟩
    · exact q.elim
  · unfold mVar at h ⊢
    split at h
    · exact i _ _ h
    · exact h.elim
def mC (d : D) : EM := fun _ S Q => Q d S
theorem mon_C (d : D) : MonE (mC d) := fun _ S Q Q' i h => i _ _ h
theorem me_C {e : Expr} {d : D} {v : V} (h : PE X e (tC v)) (hd : ∀ H, DV X.K H d v) : ME X B e (mC d) := by
  refine ⟨pe_imp h fun σ H Q q => ?_, mon_C d⟩
  obtain ⟨_, env, S, r, z, q⟩ := q
  exact q v H (Le.refl H) z (hd H)
theorem me_int {i j pos} : ME X B (.Constant (.int i) j pos) (mC (.int i)) := me_C pe_int fun _ => .int i
theorem me_bl {b j pos} : ME X B (.Constant (.bool b) j pos) (mC (.bl b)) := me_C pe_bl fun _ => .bl b
theorem me_non {j pos} : ME X B (.Constant .none j pos) (mC .non) := me_C pe_non fun _ => .non
theorem me_str {x j pos} (ok : OkS x := by exact ⟨by decide +kernel, by decide +kernel⟩) : ME X B (.Constant (.str x) j pos) (mC (.str x)) := me_C pe_str fun _ => .str x ok

/-! ### operators by values -/
abbrev BM := D → D → Sto → DQ → Prop
structure OpD (X : Cx) (f : Value → Value → Sem Value) (r : BM) : Prop where
  op : OpR X f fun x y H Q => ∃ d e S, DV X.K H d x ∧ DV X.K H e y ∧ Rp X.K X.prog X.w S H ∧ r d e S (dnE X.K X.prog X.w H Q)
  mono : ∀ d e S (Q Q' : DQ), (∀ d S, Q d S → Q' d S) → r d e S Q → r d e S Q'
def mOp (r : BM) (ma mb : EM) : EM := fun env S Q => ma env S fun x S1 => mb env S1 fun y S2 => r x y S2 Q
theorem mon_op {r : BM} {ma mb : EM} (hr : ∀ d e S (Q Q' : DQ), (∀ d S, Q d S → Q' d S) → r d e S Q → r d e S Q') (ha : MonE ma) (hb : MonE mb) : MonE (mOp r ma mb) := fun env S Q Q' i h =>
  ha env S _ _ (fun x S1 h1 => hb env S1 _ _ (fun y S2 h2 => hr x y S2 _ _ i h2) h1) h
variable {a b : Expr} {ma mb : EM} {pos : Pos}
/-- two in a row -/
theorem up_two {K : PySem.W.Frag} {P : Program} {w : World} {r : BM} {R : R2} (ha : MonE ma) (hb : MonE mb) (hR : ∀ x y H Q d e S, DV K H d x → DV K H e y → Rp K P w S H → r d e S (dnE K P w H Q) → R x y H Q)
    (hr : ∀ d e S (Q Q' : DQ), (∀ d S, Q d S → Q' d S) → r d e S Q → r d e S Q') {σ : L2.St} {H : Hp} {Q : VK} (h : up K P w B (mOp r ma mb) σ H Q) : tOp R (up K P w B ma) (up K P w B mb) σ H Q := by
  obtain ⟨lB, env, S, r0, z0, h⟩ := h
  refine ⟨lB, env, S, r0, z0, ha env S _ _ (fun x S1 h1 v H1 l1 z1 d1 => ?_) h⟩
  refine ⟨lB.trans l1, env, S1, r0.le l1, z1, hb env S1 _ _ (fun y S2 h2 u H2 l2 z2 d2 => ?_) h1⟩
  exact hR v u H2 Q x y S2 (d1.le l2) d2 z2 (hr _ _ _ _ _ (dnE_le (l1.trans l2)) h2)
theorem me_op {op : Operator} {r : BM} (ho : OpD X (binaryOp op) r) (ha : ME X B a ma) (hb : ME X B b mb) : ME X B (.BinOp a op b pos) (mOp r ma mb) :=
  ⟨pe_imp (pe_op ho.op ha.pe hb.pe) fun _ _ _ h => up_two ha.mono hb.mono (fun _ _ _ _ d e S h1 h2 h3 h4 => ⟨d, e, S, h1, h2, h3, h4⟩) ho.mono h, mon_op ho.mono ha.mono hb.mono⟩
theorem me_cmp {op : CmpOp} {r : BM} (ho : OpD X (compareOp op) r) (ha : ME X B a ma) (hb : ME X B b mb) (hm : behindInMarks op b = false := by first | exact nomark _ | rfl) : ME X B (.Compare a [op] [b] pos) (mOp r ma mb) :=
  ⟨pe_imp (pe_cmpR ho.op ha.pe hb.pe hm) fun _ _ _ h => up_two ha.mono hb.mono (fun _ _ _ _ d e S h1 h2 h3 h4 => ⟨d, e, S, h1, h2, h3, h4⟩) ho.mono h, mon_op ho.mono ha.mono hb.mono⟩
/-- a value that is a bool, as a test -/
def mB (m : EM) : TM := fun env S Q => m env S fun d S1 => match d with
  | .bl b => Q b S1
  | _ => False
theorem mon_B {m : EM} (h : MonE m) : MonT (mB m) := fun env S Q Q' i q => h env S _ _ (fun d S1 z => by
  cases d <;> first | exact i _ _ z | exact z.elim) q
theorem mt_cmp {op : CmpOp} {r : BM} (ho : OpD X (compareOp op) r) (ha : ME X B a ma) (hb : ME X B b mb) (hm : behindInMarks op b = false := by first | exact nomark _ | rfl) : MT X B (.Compare a [op] [b] pos) (mB (mOp r ma mb)) := by
  refine ⟨pt_imp (pt_cmpR ho.op ha.pe hb.pe hm) fun σ H Q h => ?_, mon_B (mon_op ho.mono ha.mono hb.mono)⟩
  obtain ⟨lB, env, S, r0, z0, h⟩ := h
  refine up_two (r := r) ha.mono hb.mono (fun _ _ _ _ d e S h1 h2 h3 h4 => ⟨d, e, S, h1, h2, h3, h4⟩) ho.mono ⟨lB, env, S, r0, z0, ?_⟩
  refine mon_op ho.mono ha.mono hb.mono env S _ _ (fun d S1 q v H' l r d1 => ?_) h
  cases d1 <;> first | exact ⟨_, rfl, q H' l r⟩ | exact q.elim
end
end DL

set_option Elab.async false
set_option linter.all false
set_option maxRecDepth 100000
set_option maxHeartbeats 4000000
/-! DL2: operators and comparisons by values. -/
namespace DL
open PySem L2
section
variable {X : Cx}
theorem opd {f : Value → Value → Sem Value} {r : BM} (R : R2) (h : OpR X f R) (hR : ∀ x y H Q d e S, DV X.K H d x → DV X.K H e y → Rp X.K X.prog X.w S H → r d e S (dnE X.K X.prog X.w H Q) → R x y H Q)
    (mono : ∀ d e S (Q Q' : DQ), (∀ d S, Q d S → Q' d S) → r d e S Q → r d e S Q') : OpD X f r := ⟨fun pins s σ H x y v u Q I rx ry q => by
  obtain ⟨d, e, S, h1, h2, h3, h4⟩ := q
  exact h pins s σ H x y v u Q I rx ry (hR x y H Q d e S h1 h2 h3 h4), mono⟩
/-- back from the store's wish: the heap as it stands -/
theorem dn_same {K : PySem.W.Frag} {P : Program} {w : World} {H : Hp} {Q : VK} {S : Sto} {d : D} {v : V} (h : dnE K P w H Q d S) (r : Rp K P w S H) (z : DV K H d v) : Q v H := h v H (Le.refl H) r z
theorem dn_newL {K : PySem.W.Frag} {P : Program} {w : World} {H : Hp} {Q : VK} {S : Sto} {ds : List D} {vs : List V} (h : ∀ p, S p = none → dnE K P w H Q (.ref p) (put S p (.lst ds))) (r : Rp K P w S H) (z : DVs K H ds vs) : ∀ p, H p = none → Q (.ref p) (upd H p (.lst vs)) := fun p hp =>
  h p (r.free hp) _ _ (Le.new hp) (r.new hp ⟨vs, upd_same, z.le (Le.new hp)⟩) (.ref p)
theorem dn_newT {K : PySem.W.Frag} {P : Program} {w : World} {H : Hp} {Q : VK} {S : Sto} {ds : List D} {vs : List V} (h : dnE K P w H Q (.tup ds) S) (r : Rp K P w S H) (z : DVs K H ds vs) : ∀ p, H p = none → Q (.ref p) (upd H p (.tup vs)) := fun p hp =>
  h _ _ (Le.new hp) (r.more hp) (.tup (.inl (.inl upd_same)) (z.le (Le.new hp)) upd_same)

theorem OkS.append {a b : Str} (h : OkS a) (h' : OkS b) (hl : a.length + b.length ≤ sizeLine) : OkS (a ++ b) := by
  refine ⟨?_, ?_⟩
  · have h1 := h.1
    have h2 := h'.1
    unfold PyData.strOk at *
    show ((a.cps ++ b.cps).all _) = true
    rw [Array.all_append]
    rw [h1, h2]
    rfl
  · show (a.cps ++ b.cps).size ≤ sizeLine
    rw [Array.size_append]
    exact hl

/-! ### + - * // % ** -/
def vAdd : BM := fun d e S Q => match d, e with
  | .int i, .int j => Q (.int (i + j)) S
  | .str i, .str j => i.length + j.length ≤ sizeLine ∧ Q (.str (i ++ j)) S
  | .tp f xs, .tp f' ys => (f || f') = false ∧ xs.length + ys.length ≤ sizeLine ∧ Q (.tup (xs ++ ys)) S
  | .ref a, .ref b => match S a, S b with
    | some (.lst xs), some (.lst ys) => xs.length + ys.length ≤ sizeLine ∧ ∀ p, S p = none → Q (.ref p) (put S p (.lst (xs ++ ys)))
    | _, _ => False
  | _, _ => False
theorem mon_add : ∀ d e S (Q Q' : DQ), (∀ d S, Q d S → Q' d S) → vAdd d e S Q → vAdd d e S Q' := by
  intro d e S Q Q' i h
  cases d <;> cases e <;> first | exact h.elim | exact i _ _ h | exact ⟨h.1, i _ _ h.2⟩ | exact ⟨h.1, h.2.1, i _ _ h.2.2⟩ | skip
  rename_i a b
  unfold vAdd at h ⊢
  dsimp only at h ⊢
  split at h
  · exact ⟨h.1, fun p hp => i _ _ (h.2 p hp)⟩
  · exact h.elim
theorem od_add : OpD X (binaryOp .Add) vAdd := by
  refine opd _ ((op_add.or op_add_str).or (op_catA.or op_cat)) (fun x y H Q d e S h1 h2 r h => ?_) mon_add
  cases h1 <;> cases h2 <;> first | exact h.elim | skip
  · exact .inl (.inl ⟨_, _, rfl, rfl, dn_same h r (.int _)⟩)
  · rename_i i o1 j o2
    exact .inl (.inr ⟨_, _, rfl, rfl, h.1, dn_same h.2 r (.str _ (o1.append o2 h.1))⟩)
  · rename_i a vs ds f1 s1 z1 t1 b us es f2 s2 z2 t2
    obtain ⟨hf, h⟩ := h
    obtain ⟨rfl, rfl⟩ := Bool.or_eq_false_iff.mp hf
    have hl : vs.length + us.length ≤ sizeLine := by rw [← z1.length, ← z2.length]; exact h.1
    refine .inr (.inl ⟨_, _, vs, us, rfl, rfl, s1, s2, hl, fun e => ?_, fun _ e => ?_, fun _ _ => dn_newT h.2 r (z1.append z2)⟩)
    · subst e
      cases z1
      exact dn_same h.2 r (.tup s2 z2 t2)
    · subst e
      cases z2
      exact dn_same h.2 r (by rw [List.append_nil]; exact .tup s1 z1 t1)
  · rename_i a b
    unfold vAdd at h
    dsimp only at h
    split at h
    · rename_i xs ys e1 e2
      obtain ⟨vs, q1, z1⟩ := r _ _ e1
      obtain ⟨us, q2, z2⟩ := r _ _ e2
      refine .inr (.inr ⟨_, _, vs, us, rfl, rfl, q1, q2, by rw [← z1.length, ← z2.length]; exact h.1, dn_newL h.2 r (z1.append z2)⟩)
    · exact h.elim
/-- two ints under a condition -/
def vI (C : Int → Int → Prop) (g : Int → Int → D) : BM := fun d e S Q => match d, e with
  | .int i, .int j => C i j ∧ Q (g i j) S
  | _, _ => False
theorem mon_I {C : Int → Int → Prop} {g : Int → Int → D} : ∀ d e S (Q Q' : DQ), (∀ d S, Q d S → Q' d S) → vI C g d e S Q → vI C g d e S Q' := by
  intro d e S Q Q' i h
  cases d <;> cases e <;> first | exact h.elim | exact ⟨h.1, i _ _ h.2⟩
def vI0 (g : Int → Int → D) : BM := fun d e S Q => match d, e with
  | .int i, .int j => Q (g i j) S
  | _, _ => False
theorem mon_I0 {g : Int → Int → D} : ∀ d e S (Q Q' : DQ), (∀ d S, Q d S → Q' d S) → vI0 g d e S Q → vI0 g d e S Q' := by
  intro d e S Q Q' i h
  cases d <;> cases e <;> first | exact h.elim | exact i _ _ h
theorem od_I {f : Value → Value → Sem Value} {C : Int → Int → Prop} {g : Int → Int → Int} (h : OpR X f (rI C fun i j => .int (g i j))) : OpD X f (vI C fun i j => .int (g i j)) := by
  refine opd _ h (fun x y H Q d e S h1 h2 r h => ?_) mon_I
  cases h1 <;> cases h2 <;> first | exact h.elim | exact ⟨_, _, rfl, rfl, h.1, dn_same h.2 r (.int _)⟩
theorem od_sub : OpD X (binaryOp .Sub) (vI0 fun i j => .int (i - j)) := by
  refine opd _ op_sub (fun x y H Q d e S h1 h2 r h => ?_) mon_I0
  cases h1 <;> cases h2 <;> first | exact h.elim | exact ⟨_, _, rfl, rfl, dn_same h r (.int _)⟩
theorem od_mod : OpD X (binaryOp .Mod) (vI (fun _ j => 0 < j) fun i j => .int (i % j)) := od_I op_mod
theorem od_fdiv : OpD X (binaryOp .FloorDiv) (vI CDivW fun i j => .int (i / j)) := od_I op_fdivW
theorem od_pow : OpD X (binaryOp .Pow) (vI CPow fun i j => .int (i ^ j.toNat)) := od_I op_pow
/-- * : ints, a list by an int -/
def vMul : BM := fun d e S Q => match d, e with
  | .int i, .int j => CMul i j ∧ Q (.int (i * j)) S
  | .ref a, .int k => match S a with
    | some (.lst xs) => -(2 ^ 63) ≤ k ∧ k < 2 ^ 63 ∧ xs.length * k.toNat ≤ sizeLine ∧ ∀ p, S p = none → Q (.ref p) (put S p (.lst (List.replicate k.toNat xs).flatten))
    | _ => False
  | _, _ => False
theorem mon_mul : ∀ d e S (Q Q' : DQ), (∀ d S, Q d S → Q' d S) → vMul d e S Q → vMul d e S Q' := by
  intro d e S Q Q' i h
  cases d <;> cases e <;> first | exact h.elim | exact ⟨h.1, i _ _ h.2⟩ | skip
  unfold vMul at h ⊢
  dsimp only at h ⊢
  split at h
  · exact ⟨h.1, h.2.1, h.2.2.1, fun p hp => i _ _ (h.2.2.2 p hp)⟩
  · exact h.elim
theorem DVs.rep {K : PySem.W.Frag} {H : Hp} {ds : List D} {vs : List V} (h : DVs K H ds vs) : ∀ n : Nat, DVs K H (List.replicate n ds).flatten (List.replicate n vs).flatten
  | 0 => .nil
  | n + 1 => by
    rw [List.replicate_succ, List.replicate_succ, List.flatten_cons, List.flatten_cons]
    exact h.append (DVs.rep h n)
theorem od_mul : OpD X (binaryOp .Mult) vMul := by
  refine opd _ (op_mul.or op_rep) (fun x y H Q d e S h1 h2 r h => ?_) mon_mul
  cases h1 <;> cases h2 <;> first | exact h.elim | skip
  · exact .inl ⟨_, _, rfl, rfl, h.1, dn_same h.2 r (.int _)⟩
  · unfold vMul at h
    dsimp only at h
    split at h
    · rename_i xs e1
      obtain ⟨vs, q1, z1⟩ := r _ _ e1
      exact .inr ⟨_, _, vs, rfl, rfl, q1, h.1, h.2.1, by rw [← z1.length]; exact h.2.2.1, dn_newL h.2.2.2 r (z1.rep _)⟩
    · exact h.elim

/-! ### < <= > >= -/
/-- two ints, two texts -/
def vOrd (pi : Int → Int → Bool) (ps : List Nat → List Nat → Bool) : BM := fun d e S Q => match d, e with
  | .int i, .int j => Q (.bl (pi i j)) S
  | .str i, .str j => Q (.bl (ps i.cps.toList j.cps.toList)) S
  | _, _ => False
theorem mon_ord {pi : Int → Int → Bool} {ps : List Nat → List Nat → Bool} : ∀ d e S (Q Q' : DQ), (∀ d S, Q d S → Q' d S) → vOrd pi ps d e S Q → vOrd pi ps d e S Q' := by
  intro d e S Q Q' i h
  cases d <;> cases e <;> first | exact h.elim | exact i _ _ h
theorem od_ord {f : Value → Value → Sem Value} {pi : Int → Int → Bool} {ps : List Nat → List Nat → Bool} (h1 : OpR X f (rI0 fun i j => .bl (pi i j))) (h2 : OpR X f (fun x y H Q => ∃ i j, x = .str i ∧ y = .str j ∧ Q (.bl (ps i.cps.toList j.cps.toList)) H)) : OpD X f (vOrd pi ps) := by
  refine opd _ (h1.or h2) (fun x y H Q d e S h1 h2 r h => ?_) mon_ord
  cases h1 <;> cases h2 <;> first | exact h.elim | exact .inl ⟨_, _, rfl, rfl, dn_same h r (.bl _)⟩ | exact .inr ⟨_, _, rfl, rfl, dn_same h r (.bl _)⟩
abbrev vLt : BM := vOrd (fun i j => decide (i < j)) fun a b => decide (a < b)
abbrev vLe : BM := vOrd (fun i j => decide (i ≤ j)) fun a b => !decide (b < a)
abbrev vGt : BM := vOrd (fun i j => decide (j < i)) fun a b => decide (b < a)
abbrev vGe : BM := vOrd (fun i j => decide (j ≤ i)) fun a b => !decide (a < b)
theorem od_lt : OpD X (compareOp .Lt) vLt := od_ord op_lt op_lt_str
theorem od_le : OpD X (compareOp .LtE) vLe := od_ord op_le op_le_str
theorem od_gt : OpD X (compareOp .Gt) vGt := od_ord op_gt op_gt_str
theorem od_ge : OpD X (compareOp .GtE) vGe := od_ord op_ge op_ge_str

/-! ### == != : data at any depth -/
/-- what it is as data (lists by their items) -/
def rs (S : Sto) : Nat → D → Option PyData
  | _, .non => some .none
  | _, .bl b => some (.bool b)
  | _, .int i => some (.int i)
  | _, .str x => some (.str x)
  | n + 1, .tp _ ds => (ds.mapM (rs S n)).map .tuple
  | n + 1, .rol ds => (ds.mapM (rs S n)).map .list
  | n + 1, .ref a => match S a with
    | some (.lst ds) => (ds.mapM (rs S n)).map .list
    | _ => none
  | _, _ => none
theorem mapM_cons_some {α β : Type} {f : α → Option β} {x : α} {xs : List α} {ys : List β} (h : (x :: xs).mapM f = some ys) : ∃ y r, f x = some y ∧ xs.mapM f = some r ∧ ys = y :: r := by
  rw [List.mapM_cons] at h
  cases e : f x with
  | none => rw [e] at h; cases h
  | some y =>
    rw [e] at h
    cases e2 : xs.mapM f with
    | none => rw [e2] at h; cases h
    | some r =>
      rw [e2] at h
      exact ⟨y, r, rfl, rfl, (Option.some.inj h).symm⟩
section
variable {K : PySem.W.Frag} {P : Program} {w : World} {S : Sto} {H : Hp}
def RsOk (K : PySem.W.Frag) (H : Hp) (S : Sto) (n : Nat) : Prop := ∀ d v p, DV K H d v → rs S n d = some p → Dp K H v p ∧ p.canLay0 = true ∧ p.depth ≤ n
theorem rs_all {n : Nat} (ih : RsOk K H S n) : ∀ (ds : List D) (vs : List V) (ps : List PyData), DVs K H ds vs → ds.mapM (rs S n) = some ps → DpAll K H vs ps ∧ PyData.canLayAll0 ps = true ∧ PyData.depthAll ps ≤ n
  | [], vs, ps, h, e => by
    cases h
    rw [List.mapM_nil] at e
    cases e
    exact ⟨.nil, rfl, Nat.zero_le _⟩
  | d :: ds, _, ps, h, e => by
    cases h with
    | cons h1 h2 =>
      obtain ⟨y, r, e1, e2, rfl⟩ := mapM_cons_some e
      obtain ⟨a1, a2, a3⟩ := ih d _ y h1 e1
      obtain ⟨b1, b2, b3⟩ := rs_all ih ds _ r h2 e2
      refine ⟨.cons a1 b1, ?_, ?_⟩
      · show (y.canLay0 && PyData.canLayAll0 r) = true
        rw [a2, b2]
        rfl
      · show max y.depth (PyData.depthAll r) ≤ n
        exact Nat.max_le.mpr ⟨a3, b3⟩
theorem map_some' {α β : Type} {f : α → β} {o : Option α} {y : β} (h : o.map f = some y) : ∃ x, o = some x ∧ y = f x := by
  cases o with
  | none => cases h
  | some x => exact ⟨x, rfl, (Option.some.inj h).symm⟩
theorem rs_ok (r : Rp K P w S H) : ∀ n, RsOk K H S n := by
  intro n
  induction n with
  | zero =>
    intro d v p h e
    cases h <;> first | (cases e; done) | skip
    · cases e; exact ⟨.non, rfl, Nat.zero_le _⟩
    · cases e; exact ⟨.bl _, rfl, Nat.zero_le _⟩
    · cases e; exact ⟨.int _, rfl, Nat.zero_le _⟩
    · rename_i x ok
      cases e; exact ⟨.str _, ok.1, Nat.zero_le _⟩
  | succ n ih =>
    intro d v p h e
    cases h with
    | non => cases e; exact ⟨.non, rfl, Nat.zero_le _⟩
    | bl b => cases e; exact ⟨.bl _, rfl, Nat.zero_le _⟩
    | int i => cases e; exact ⟨.int _, rfl, Nat.zero_le _⟩
    | str x ok => cases e; exact ⟨.str _, ok.1, Nat.zero_le _⟩
    | ty => cases e
    | rod => cases e
    | tup s z =>
      obtain ⟨ps, e1, rfl⟩ := map_some' (show (List.mapM (rs S n) _).map PyData.tuple = some p from e)
      obtain ⟨a1, a2, a3⟩ := rs_all ih _ _ ps z e1
      exact ⟨.tup s a1, a2, Nat.succ_le_succ a3⟩
    | rol s z =>
      obtain ⟨ps, e1, rfl⟩ := map_some' (show (List.mapM (rs S n) _).map PyData.list = some p from e)
      obtain ⟨a1, a2, a3⟩ := rs_all ih _ _ ps z e1
      exact ⟨.lst s.sq a1, a2, Nat.succ_le_succ a3⟩
    | ref a =>
      unfold rs at e
      split at e
      · rename_i ds e0
        obtain ⟨vs, q, z⟩ := r _ _ e0
        obtain ⟨ps, e1, rfl⟩ := map_some' e
        obtain ⟨a1, a2, a3⟩ := rs_all ih _ _ ps z e1
        exact ⟨.lst (SqL.of q) a1, a2, Nat.succ_le_succ a3⟩
      · cases e
theorem rs_shaped (r : Rp K P w S H) {d : D} {v : V} {p : PyData} (h : DV K H d v) (e : rs S 40 d = some p) : Dp K H v p ∧ SeqAt.shaped p = true := by
  obtain ⟨a, b, c⟩ := rs_ok r 40 d v p h e
  refine ⟨a, ?_⟩
  show (p.canLay0 && decide (p.depth ≤ 64)) = true
  rw [b, decide_eq_true (Nat.le_trans c (by decide))]
  rfl
end
/-- == with a Bool turned by g -/
def vEqG (g : Bool → Bool) : BM := fun d e S Q => match d, e with
  | .str x, .str y => Q (.bl (g (decide (x = y)))) S
  | .int x, .int y => Q (.bl (g (decide (x = y)))) S
  | .bl x, .bl y => Q (.bl (g (decide (x = y)))) S
  | d, e => match rs S 40 d, rs S 40 e with
    | some p, some q => Q (.bl (g (PyData.eqv p q))) S
    | _, _ => False
theorem mon_eqG {g : Bool → Bool} : ∀ d e S (Q Q' : DQ), (∀ d S, Q d S → Q' d S) → vEqG g d e S Q → vEqG g d e S Q' := by
  intro d e S Q Q' i h
  unfold vEqG at h ⊢
  split at h
  · exact i _ _ h
  · exact i _ _ h
  · exact i _ _ h
  · split at h
    · exact i _ _ h
    · exact h.elim
abbrev vEq : BM := vEqG fun b => b
abbrev vNe : BM := vEqG fun b => !b
theorem dec_eqv_str (x y : Str) : decide (x = y) = PyData.eqv (.str x) (.str y) := by
  show decide (x = y) = (x == y)
  rfl
theorem od_eqG {f : Value → Value → Sem Value} {g : Bool → Bool} (h1 : OpR X f (fun x y H Q => scal x y = true ∧ Q (.bl (g (decide (x = y)))) H))
    (h2 : OpR X f (fun x y H Q => ∃ d e, Dp X.K H x d ∧ Dp X.K H y e ∧ SeqAt.shaped d = true ∧ SeqAt.shaped e = true ∧ Q (.bl (g (PyData.eqv d e))) H)) : OpD X f (vEqG g) := by
  refine opd _ (h1.or h2) (fun x y H Q d e S h1 h2 r h => ?_) mon_eqG
  unfold vEqG at h
  split at h
  · rename_i a b
    cases h1; cases h2
    refine .inl ⟨rfl, ?_⟩
    have : decide (V.str a = V.str b) = decide (a = b) := by
      by_cases q : a = b
      · subst q; simp
      · rw [decide_eq_false q, decide_eq_false (fun z => q (V.str.inj z))]
    rw [this]
    exact dn_same h r (.bl _)
  · rename_i a b
    cases h1; cases h2
    refine .inl ⟨rfl, ?_⟩
    have : decide (V.int a = V.int b) = decide (a = b) := by
      by_cases q : a = b
      · subst q; simp
      · rw [decide_eq_false q, decide_eq_false (fun z => q (V.int.inj z))]
    rw [this]
    exact dn_same h r (.bl _)
  · rename_i a b
    cases h1; cases h2
    refine .inl ⟨rfl, ?_⟩
    have : decide (V.bl a = V.bl b) = decide (a = b) := by
      by_cases q : a = b
      · subst q; simp
      · rw [decide_eq_false q, decide_eq_false (fun z => q (V.bl.inj z))]
    rw [this]
    exact dn_same h r (.bl _)
  · split at h
    · rename_i p q e1 e2
      obtain ⟨a1, a2⟩ := rs_shaped r h1 e1
      obtain ⟨b1, b2⟩ := rs_shaped r h2 e2
      exact .inr ⟨p, q, a1, b1, a2, b2, dn_same h r (.bl _)⟩
    · exact h.elim
theorem od_eq (hu : X.A.units + 64 < cLine) : OpD X (compareOp .Eq) vEq := od_eqG op_eq (op_eqD hu)
theorem od_ne (hu : X.A.units + 64 < cLine) : OpD X (compareOp .NotEq) vNe := od_eqG op_ne (op_neD hu)

/-! ### is, is not: None, bools -/
def vIsG (g : Bool → Bool) : BM := fun d e S Q => match d, e with
  | .non, .non => Q (.bl (g true)) S
  | .bl x, .bl y => Q (.bl (g (decide (x = y)))) S
  | _, .non => Q (.bl (g false)) S
  | _, _ => False
theorem mon_isG {g : Bool → Bool} : ∀ d e S (Q Q' : DQ), (∀ d S, Q d S → Q' d S) → vIsG g d e S Q → vIsG g d e S Q' := by
  intro d e S Q Q' i h
  cases d <;> cases e <;> first | exact h.elim | exact i _ _ h
abbrev vIs : BM := vIsG fun b => b
abbrev vIsNot : BM := vIsG fun b => !b
theorem od_isG {f : Value → Value → Sem Value} {g : Bool → Bool} (h1 : OpR X f (fun x y H Q => y = .non ∧ Q (.bl (g (decide (x = .non)))) H))
    (h2 : OpR X f (fun x y H Q => ∃ a b : Bool, x = .bl a ∧ y = .bl b ∧ Q (.bl (g (decide (a = b)))) H)) : OpD X f (vIsG g) := by
  refine opd _ (h1.or h2) (fun x y H Q d e S h1 h2 r h => ?_) mon_isG
  cases h2 <;> cases h1 <;> first | exact h.elim | exact .inl ⟨rfl, dn_same h r (.bl _)⟩ | exact .inr ⟨_, _, rfl, rfl, dn_same h r (.bl _)⟩
theorem od_is : OpD X (compareOp .Is) vIs := od_isG op_isN op_isBl
theorem od_isnot : OpD X (compareOp .IsNot) vIsNot := od_isG op_notN op_notBl
end
end DL

set_option Elab.async false
set_option linter.all false
set_option maxRecDepth 100000
set_option maxHeartbeats 4000000
/-! DL3: tests, arguments, displays, subscripts, slices, built-in calls. -/
namespace DL
open PySem L2
section
variable {X : Cx} {B : Hp}
/-! ### tests -/
/-- a value's truth -/
def truD (S : Sto) : D → Option Bool
  | .non => some false
  | .bl b => some b
  | .int i => some (i != 0)
  | .str x => some ((x.length : Int) != 0)
  | .tp _ xs => some (!xs.isEmpty)
  | .rol xs => some (!xs.isEmpty)
  | .ref a => match S a with
    | some (.lst xs) => some (!xs.isEmpty)
    | some (.dic xs) => some (!xs.isEmpty)
    | _ => none
  | .ty _ => none
  | .rod _ _ => none
theorem tru_dv {K : PySem.W.Frag} {P : Program} {w : World} {H : Hp} {S : Sto} {d : D} {v : V} {b : Bool} (h : DV K H d v) (r : Rp K P w S H) (e : truD S d = some b) : TruV K v H b := by
  cases h with
  | non => cases e; rfl
  | bl => cases e; rfl
  | int => cases e; rfl
  | str x ok => cases e; exact ⟨ok.2, rfl⟩
  | ty => cases e
  | rod => cases e
  | tup s z =>
    cases e
    refine .inr (.inl ⟨_, s, ?_⟩)
    cases z <;> rfl
  | rol s z =>
    cases e
    refine .inl ⟨_, s.sq, ?_⟩
    cases z <;> rfl
  | ref a =>
    simp only [truD] at e
    split at e
    · rename_i xs e0
      obtain ⟨vs, q, z⟩ := r _ _ e0
      cases e
      refine .inl ⟨_, SqL.of q, ?_⟩
      cases z <;> rfl
    · rename_i xs e0
      obtain ⟨vs, q, z⟩ := r _ _ e0
      cases e
      refine .inr (.inr ⟨_, q, ?_⟩)
      cases z <;> rfl
    · cases e
def mTru (m : EM) : TM := fun env S Q => m env S fun d S1 => match truD S1 d with
  | some b => Q b S1
  | none => False
theorem mon_tru {m : EM} (h : MonE m) : MonT (mTru m) := fun env S Q Q' i q => h env S _ _ (fun d S1 z => by
  split at z
  · exact i _ _ z
  · exact z.elim) q
theorem mt_tru {a : Expr} {m : EM} (h : ME X B a m) (he : ∀ whole, isTrue a X.env whole = (do let v ← whole; standAt a.pos; holding [v] (truthy v)) := by intro _; rfl) : MT X B a (mTru m) := by
  refine ⟨pt_imp (pt_truth h.pe he) fun σ H Q q => ?_, mon_tru h.mono⟩
  obtain ⟨lB, env, S, r0, z0, q⟩ := q
  refine ⟨lB, env, S, r0, z0, h.mono env S _ _ (fun d S1 q v H1 l1 z1 d1 => ?_) q⟩
  dsimp only at q
  split at q
  · rename_i b e
    exact ⟨b, tru_dv d1 z1 e, q H1 l1 z1⟩
  · exact q.elim
def mAnd (t u : TM) : TM := fun env S Q => t env S fun c S1 => match c with
  | true => u env S1 Q
  | false => Q false S1
def mOr (t u : TM) : TM := fun env S Q => t env S fun c S1 => match c with
  | true => Q true S1
  | false => u env S1 Q
def mNot (t : TM) : TM := fun env S Q => t env S fun c S1 => Q (!c) S1
/-- a test whatever its whole is -/
structure MW (X : Cx) (B : Hp) (e : Expr) (m : TM) : Prop where
  pw : PW X e (upT X.K X.prog X.w B m)
  mono : MonT m
theorem MW.mt {e : Expr} {m : TM} (h : MW X B e m) : MT X B e m := ⟨h.pw.pt, h.mono⟩
variable {a b : Expr} {rest : List Expr} {t u : TM} {pos : Pos}
theorem mw_and1 (h : MT X B a t) : MW X B (.BoolOp .And [a] pos) t := ⟨pw_and1 h.pt, h.mono⟩
theorem mw_or1 (h : MT X B a t) : MW X B (.BoolOp .Or [a] pos) t := ⟨pw_or1 h.pt, h.mono⟩
theorem mw_and (h : MT X B a t) (h2 : MW X B (.BoolOp .And (b :: rest) pos) u) : MW X B (.BoolOp .And (a :: b :: rest) pos) (mAnd t u) := by
  refine ⟨pw_imp (pw_and h.pt h2.pw) fun σ H Q q => ?_, fun env S Q Q' i q => h.mono env S _ _ (fun c S1 z => ?_) q⟩
  · obtain ⟨lB, env, S, r0, z0, q⟩ := q
    refine ⟨lB, env, S, r0, z0, h.mono env S _ _ (fun c S1 q H1 l1 z1 => ?_) q⟩
    cases c with
    | true =>
      show upT X.K X.prog X.w B u σ H1 Q
      exact ⟨lB.trans l1, env, S1, r0.le l1, z1, h2.mono env S1 _ _ (fun b S2 q H2 l2 z2 => q H2 (l1.trans l2) z2) q⟩
    | false => exact q H1 l1 z1
  · cases c with
    | true => exact h2.mono env S1 _ _ i z
    | false => exact i _ _ z
theorem mw_or (h : MT X B a t) (h2 : MW X B (.BoolOp .Or (b :: rest) pos) u) : MW X B (.BoolOp .Or (a :: b :: rest) pos) (mOr t u) := by
  refine ⟨pw_imp (pw_or h.pt h2.pw) fun σ H Q q => ?_, fun env S Q Q' i q => h.mono env S _ _ (fun c S1 z => ?_) q⟩
  · obtain ⟨lB, env, S, r0, z0, q⟩ := q
    refine ⟨lB, env, S, r0, z0, h.mono env S _ _ (fun c S1 q H1 l1 z1 => ?_) q⟩
    cases c with
    | false =>
      show upT X.K X.prog X.w B u σ H1 Q
      exact ⟨lB.trans l1, env, S1, r0.le l1, z1, h2.mono env S1 _ _ (fun b S2 q H2 l2 z2 => q H2 (l1.trans l2) z2) q⟩
    | true => exact q H1 l1 z1
  · cases c with
    | false => exact h2.mono env S1 _ _ i z
    | true => exact i _ _ z
theorem mt_not (h : MT X B a t) : MT X B (.UnaryOp .Not a pos) (mNot t) := by
  refine ⟨pt_imp (pt_not h.pt) fun σ H Q q => ?_, fun env S Q Q' i q => h.mono env S _ _ (fun c S1 z => i _ _ z) q⟩
  exact q
/-! ### and, or, not, if as values -/
variable {ma mb : EM}
/-- a value that is a bool -/
def kB (k : Bool → Sto → Prop) : D → Sto → Prop := fun d S => match d with
  | .bl b => k b S
  | _ => False
def mAndV (ma mb : EM) : EM := fun env S Q => ma env S (kB fun c S1 => match c with
  | true => mb env S1 Q
  | false => Q (.bl false) S1)
def mOrV (ma mb : EM) : EM := fun env S Q => ma env S (kB fun c S1 => match c with
  | true => Q (.bl true) S1
  | false => mb env S1 Q)
def mNotV (ma : EM) : EM := fun env S Q => ma env S (kB fun c S1 => Q (.bl (!c)) S1)
theorem kB_mono {k k' : Bool → Sto → Prop} (h : ∀ b S, k b S → k' b S) : ∀ d S, kB k d S → kB k' d S := fun d S q => by
  cases d <;> first | exact h _ _ q | exact (show False from q).elim
theorem kB_dn {k : Bool → Sto → Prop} {K : PySem.W.Frag} {H : Hp} {d : D} {v : V} {S : Sto} (q : kB k d S) (z : DV K H d v) : ∃ c, v = .bl c ∧ k c S := by
  cases z <;> first | exact ⟨_, rfl, q⟩ | exact (show False from q).elim
theorem me_one {op} {m : EM} (h : ME X B a m) : ME X B (.BoolOp op [a] pos) m := ⟨pe_one h.pe, h.mono⟩
theorem me_and (h : ME X B a ma) (h2 : ME X B (.BoolOp .And (b :: rest) pos) mb) : ME X B (.BoolOp .And (a :: b :: rest) pos) (mAndV ma mb) := by
  refine ⟨pe_imp (pe_and h.pe h2.pe) fun σ H Q q => ?_, fun env S Q Q' i q => h.mono env S _ _ (kB_mono fun c S1 z => ?_) q⟩
  · obtain ⟨lB, env, S, r0, z0, q⟩ := q
    refine ⟨lB, env, S, r0, z0, h.mono env S _ _ (fun d S1 q v H1 l1 z1 d1 => ?_) q⟩
    obtain ⟨c, rfl, q⟩ := kB_dn q d1
    refine ⟨c, rfl, ?_⟩
    cases c with
    | true =>
      show up X.K X.prog X.w B mb σ H1 Q
      exact ⟨lB.trans l1, env, S1, r0.le l1, z1, h2.mono env S1 _ _ (dnE_le l1) q⟩
    | false => exact q _ H1 l1 z1 (.bl _)
  · cases c with
    | true => exact h2.mono env S1 _ _ i z
    | false => exact i _ _ z
theorem me_or (h : ME X B a ma) (h2 : ME X B (.BoolOp .Or (b :: rest) pos) mb) : ME X B (.BoolOp .Or (a :: b :: rest) pos) (mOrV ma mb) := by
  refine ⟨pe_imp (pe_or h.pe h2.pe) fun σ H Q q => ?_, fun env S Q Q' i q => h.mono env S _ _ (kB_mono fun c S1 z => ?_) q⟩
  · obtain ⟨lB, env, S, r0, z0, q⟩ := q
    refine ⟨lB, env, S, r0, z0, h.mono env S _ _ (fun d S1 q v H1 l1 z1 d1 => ?_) q⟩
    obtain ⟨c, rfl, q⟩ := kB_dn q d1
    refine ⟨c, rfl, ?_⟩
    cases c with
    | false =>
      show up X.K X.prog X.w B mb σ H1 Q
      exact ⟨lB.trans l1, env, S1, r0.le l1, z1, h2.mono env S1 _ _ (dnE_le l1) q⟩
    | true => exact q _ H1 l1 z1 (.bl _)
  · cases c with
    | false => exact h2.mono env S1 _ _ i z
    | true => exact i _ _ z
theorem me_not (h : ME X B a ma) : ME X B (.UnaryOp .Not a pos) (mNotV ma) := by
  refine ⟨pe_imp (pe_not h.pe) fun σ H Q q => ?_, fun env S Q Q' i q => h.mono env S _ _ (kB_mono fun c S1 z => i _ _ z) q⟩
  obtain ⟨lB, env, S, r0, z0, q⟩ := q
  refine ⟨lB, env, S, r0, z0, h.mono env S _ _ (fun d S1 q v H1 l1 z1 d1 => ?_) q⟩
  obtain ⟨c, rfl, q⟩ := kB_dn q d1
  exact ⟨c, rfl, q _ H1 l1 z1 (.bl _)⟩
def mIfE (t : TM) (ma mb : EM) : EM := fun env S Q => t env S fun c S1 => match c with
  | true => ma env S1 Q
  | false => mb env S1 Q
theorem me_if {c : Expr} (hc : MT X B c t) (ha : ME X B a ma) (hb : ME X B b mb) : ME X B (.IfExp c a b pos) (mIfE t ma mb) := by
  refine ⟨pe_imp (pe_ifExp hc.pt ha.pe hb.pe) fun σ H Q q => ?_, fun env S Q Q' i q => hc.mono env S _ _ (fun c S1 z => ?_) q⟩
  · obtain ⟨lB, env, S, r0, z0, q⟩ := q
    refine ⟨lB, env, S, r0, z0, hc.mono env S _ _ (fun c S1 q H1 l1 z1 => ?_) q⟩
    cases c with
    | true =>
      show up X.K X.prog X.w B ma σ H1 Q
      exact ⟨lB.trans l1, env, S1, r0.le l1, z1, ha.mono env S1 _ _ (dnE_le l1) q⟩
    | false =>
      show up X.K X.prog X.w B mb σ H1 Q
      exact ⟨lB.trans l1, env, S1, r0.le l1, z1, hb.mono env S1 _ _ (dnE_le l1) q⟩
  · cases c with
    | true => exact ha.mono env S1 _ _ i z
    | false => exact hb.mono env S1 _ _ i z
/-- a < b < c -/
def mChain (r r' : BM) (ma mb mc : EM) : EM := fun env S Q => ma env S fun x S1 => mb env S1 fun y S2 => r x y S2 (kB fun k S3 => match k with
  | true => mc env S3 fun z S4 => r' y z S4 Q
  | false => Q (.bl false) S3)
theorem mon_chain {r r' : BM} {ma mb mc : EM} (hr : ∀ d e S (Q Q' : DQ), (∀ d S, Q d S → Q' d S) → r d e S Q → r d e S Q') (hr' : ∀ d e S (Q Q' : DQ), (∀ d S, Q d S → Q' d S) → r' d e S Q → r' d e S Q')
    (ha : MonE ma) (hb : MonE mb) (hc : MonE mc) : MonE (mChain r r' ma mb mc) := fun env S Q Q' i q =>
  ha env S _ _ (fun x S1 q => hb env S1 _ _ (fun y S2 q => hr x y S2 _ _ (kB_mono fun k S3 q => by
    cases k with
    | true => exact hc env S3 _ _ (fun z S4 q => hr' y z S4 _ _ i q) q
    | false => exact i _ _ q) q) q) q
theorem up_chain {r r' : BM} {mc : EM} {op op' : CmpOp} (ho : OpD X (compareOp op) r) (ho' : OpD X (compareOp op') r') (ha : MonE ma) (hb : MonE mb) (hc : MonE mc) {σ : L2.St} {H : Hp} {Q : VK} (q : up X.K X.prog X.w B (mChain r r' ma mb mc) σ H Q) :
    tChain (fun x y H Q => ∃ d e S, DV X.K H d x ∧ DV X.K H e y ∧ Rp X.K X.prog X.w S H ∧ r d e S (dnE X.K X.prog X.w H Q)) (fun x y H Q => ∃ d e S, DV X.K H d x ∧ DV X.K H e y ∧ Rp X.K X.prog X.w S H ∧ r' d e S (dnE X.K X.prog X.w H Q))
      (up X.K X.prog X.w B ma) (up X.K X.prog X.w B mb) (up X.K X.prog X.w B mc) σ H Q := by
  obtain ⟨lB, env, S, r0, z0, h⟩ := q
  refine ⟨lB, env, S, r0, z0, ha env S _ _ (fun x S1 h1 v H1 l1 z1 d1 => ?_) h⟩
  refine ⟨lB.trans l1, env, S1, r0.le l1, z1, hb env S1 _ _ (fun y S2 h2 u H2 l2 z2 d2 => ?_) h1⟩
  refine ⟨x, y, S2, d1.le l2, d2, z2, ho.mono _ _ _ _ _ (fun c S3 q v3 H3 l3 z3 d3 => ?_) h2⟩
  obtain ⟨k, rfl, q⟩ := kB_dn q d3
  refine ⟨k, rfl, ?_⟩
  have l03 : Le H H3 := (l1.trans l2).trans l3
  cases k with
  | true =>
    show up X.K X.prog X.w B mc σ H3 _
    refine ⟨lB.trans l03, env, S3, r0.le l03, z3, hc env S3 _ _ (fun z S4 q v4 H4 l4 z4 d4 => ?_) q⟩
    exact ⟨y, z, S4, d2.le (l3.trans l4), d4, z4, ho'.mono _ _ _ _ _ (dnE_le (l03.trans l4)) q⟩
  | false => exact q _ H3 l03 z3 (.bl _)
theorem me_chain {c : Expr} {r r' : BM} {mc : EM} {op op' : CmpOp} (ho : OpD X (compareOp op) r) (ho' : OpD X (compareOp op') r') (ha : ME X B a ma) (hb : ME X B b mb) (hc : ME X B c mc)
    (h : ∀ {R R' : R2} {ta tb tc : TE}, OpR X (compareOp op) R → OpR X (compareOp op') R' → PE X a ta → PE X b tb → PE X c tc → PE X (.Compare a [op, op'] [b, c] pos) (tChain R R' ta tb tc) := by intro R R' ta tb tc h1 h2 h3 h4 h5; exact pe_chain h1 h2 h3 h4 h5) :
    ME X B (.Compare a [op, op'] [b, c] pos) (mChain r r' ma mb mc) :=
  ⟨pe_imp (h ho.op ho'.op ha.pe hb.pe hc.pe) fun _ _ _ q => up_chain ho ho' ha.mono hb.mono hc.mono q, mon_chain ho.mono ho'.mono ha.mono hb.mono hc.mono⟩
theorem mt_chain {c : Expr} {r r' : BM} {mc : EM} {op op' : CmpOp} (ho : OpD X (compareOp op) r) (ho' : OpD X (compareOp op') r') (ha : ME X B a ma) (hb : ME X B b mb) (hc : ME X B c mc)
    (h : ∀ {R R' : R2} {ta tb tc : TE}, OpR X (compareOp op) R → OpR X (compareOp op') R' → PE X a ta → PE X b tb → PE X c tc → PT X (.Compare a [op, op'] [b, c] pos) (tTest (tChain R R' ta tb tc)) := by intro R R' ta tb tc h1 h2 h3 h4 h5; exact pt_chain h1 h2 h3 h4 h5) :
    MT X B (.Compare a [op, op'] [b, c] pos) (mB (mChain r r' ma mb mc)) := by
  have mm := mon_chain ho.mono ho'.mono ha.mono hb.mono hc.mono
  refine ⟨pt_imp (h ho.op ho'.op ha.pe hb.pe hc.pe) fun σ H Q q => ?_, mon_B mm⟩
  obtain ⟨lB, env, S, r0, z0, q⟩ := q
  refine up_chain ho ho' ha.mono hb.mono hc.mono ⟨lB, env, S, r0, z0, mm env S _ _ (fun d S1 q v H' l r d1 => ?_) q⟩
  cases d1 <;> first | exact ⟨_, rfl, q H' l r⟩ | exact q.elim

/-! ### arguments, displays -/
def mNil : AM := fun _ S Q => Q [] S
def mCons (m : EM) (r : AM) : AM := fun env S Q => m env S fun d S1 => r env S1 fun ds S2 => Q (d :: ds) S2
theorem ma_nil : MA X B [] mNil := ⟨pa_imp pa_nil fun σ H Q q => by
  obtain ⟨lB, env, S, r0, z0, q⟩ := q
  exact q [] H (Le.refl H) z0 .nil, fun env S Q Q' i q => i _ _ q⟩
theorem mon_cons {m : EM} {r : AM} (h : MonE m) (h2 : MonA r) : MonA (mCons m r) := fun env S Q Q' i q => h env S _ _ (fun d S1 z => h2 env S1 _ _ (fun ds S2 z => i _ _ z) z) q
theorem ma_cons {e : Expr} {es : List Expr} {m : EM} {r : AM} (h : ME X B e m) (h2 : MA X B es r) (hs : starEach (e :: es) X.env = (false, eval e X.env) :: starEach es X.env := by rfl) : MA X B (e :: es) (mCons m r) := by
  refine ⟨pa_imp (pa_cons h.pe h2.pa hs) fun σ H Q q => ?_, mon_cons h.mono h2.mono⟩
  obtain ⟨lB, env, S, r0, z0, q⟩ := q
  refine ⟨lB, env, S, r0, z0, h.mono env S _ _ (fun d S1 q v H1 l1 z1 d1 => ?_) q⟩
  refine ⟨lB.trans l1, env, S1, r0.le l1, z1, h2.mono env S1 _ _ (fun ds S2 q vs H2 l2 z2 d2 => ?_) q⟩
  exact q (v :: vs) H2 (l1.trans l2) z2 (.cons (d1.le l2) d2)
def mTup (m : AM) : EM := fun env S Q => m env S fun ds S1 => ds.length ≤ sizeLine ∧ Q (.tup ds) S1
def mLst (m : AM) : EM := fun env S Q => m env S fun ds S1 => ds.length ≤ sizeLine ∧ ∀ p, S1 p = none → Q (.ref p) (put S1 p (.lst ds))
theorem me_tup {es : List Expr} {m : AM} {x1} (h : MA X B es m) : ME X B (.Tuple es x1 pos) (mTup m) := by
  refine ⟨pe_imp (pe_tup h.pa) fun σ H Q q => ?_, fun env S Q Q' i q => h.mono env S _ _ (fun ds S1 z => ⟨z.1, i _ _ z.2⟩) q⟩
  obtain ⟨lB, env, S, r0, z0, q⟩ := q
  refine ⟨lB, env, S, r0, z0, h.mono env S _ _ (fun ds S1 q vs H1 l1 z1 d1 => ?_) q⟩
  exact ⟨by rw [← d1.length]; exact q.1, dn_newT (dnE_le l1 _ _ q.2) z1 d1⟩
theorem me_lst {es : List Expr} {m : AM} (h : MA X B es m) : ME X B (.List es pos) (mLst m) := by
  refine ⟨pe_imp (pe_lst h.pa) fun σ H Q q => ?_, fun env S Q Q' i q => h.mono env S _ _ (fun ds S1 z => ⟨z.1, fun p hp => i _ _ (z.2 p hp)⟩) q⟩
  obtain ⟨lB, env, S, r0, z0, q⟩ := q
  refine ⟨lB, env, S, r0, z0, h.mono env S _ _ (fun ds S1 q vs H1 l1 z1 d1 => ?_) q⟩
  exact ⟨by rw [← d1.length]; exact q.1, dn_newL (fun p hp => dnE_le l1 _ _ (q.2 p hp)) z1 d1⟩

/-! ### built-in functions and types, called -/
abbrev CM := List D → Sto → DQ → Prop
structure CallD (X : Cx) (f : Value) (r : CM) : Prop where
  cr : CallR X f fun xs H Q => ∃ ds S, DVs X.K H ds xs ∧ Rp X.K X.prog X.w S H ∧ r ds S (dnE X.K X.prog X.w H Q)
  mono : ∀ ds S (Q Q' : DQ), (∀ d S, Q d S → Q' d S) → r ds S Q → r ds S Q'
theorem calld {f : Value} {r : CM} (R : List V → Hp → VK → Prop) (h : CallR X f R) (hR : ∀ xs H Q ds S, DVs X.K H ds xs → Rp X.K X.prog X.w S H → r ds S (dnE X.K X.prog X.w H Q) → R xs H Q)
    (mono : ∀ ds S (Q Q' : DQ), (∀ d S, Q d S → Q' d S) → r ds S Q → r ds S Q') : CallD X f r := ⟨fun pins s σ H xs us Q I rx q => by
  obtain ⟨ds, S, h1, h3, h4⟩ := q
  exact h pins s σ H xs us Q I rx (hR xs H Q ds S h1 h3 h4), mono⟩
def mCB (r : CM) (m : AM) : EM := fun env S Q => m env S fun ds S1 => r ds S1 Q
theorem mon_CB {r : CM} {m : AM} (hr : ∀ ds S (Q Q' : DQ), (∀ d S, Q d S → Q' d S) → r ds S Q → r ds S Q') (hm : MonA m) : MonE (mCB r m) := fun env S Q Q' i q => hm env S _ _ (fun ds S1 z => hr _ _ _ _ i z) q
theorem up_CB {r : CM} {m : AM} {K : PySem.W.Frag} {P : Program} {w : World} (hr : ∀ ds S (Q Q' : DQ), (∀ d S, Q d S → Q' d S) → r ds S Q → r ds S Q') (hm : MonA m) {σ : L2.St} {H : Hp} {Q : VK} (q : up K P w B (mCB r m) σ H Q) :
    tCB (fun xs H Q => ∃ ds S, DVs K H ds xs ∧ Rp K P w S H ∧ r ds S (dnE K P w H Q)) (upA K P w B m) σ H Q := by
  obtain ⟨lB, env, S, r0, z0, q⟩ := q
  refine ⟨lB, env, S, r0, z0, hm env S _ _ (fun ds S1 q vs H1 l1 z1 d1 => ?_) q⟩
  exact ⟨ds, S1, d1, z1, hr _ _ _ _ (dnE_le l1) q⟩
variable {e : Expr} {es : List Expr} {m : AM} {r : CM} {x : Str} {p : Pos}
theorem me_callB {id : String} (hc : CallD X (.builtin id) r) (ha : MA X B (e :: es) m)
    (h : ∀ {R : List V → Hp → VK → Prop} {t : TA}, CallR X (.builtin id) R → PA X (e :: es) t → PE X (.Call (.Name x p) (e :: es) [] pos) (tCB R t)) : ME X B (.Call (.Name x p) (e :: es) [] pos) (mCB r m) :=
  ⟨pe_imp (h hc.cr ha.pa) fun _ _ _ q => up_CB hc.mono ha.mono q, mon_CB hc.mono ha.mono⟩
theorem me_callT {T : String} (hc : CallD X (.type T) r) (ha : MA X B (e :: es) m)
    (h : ∀ {R : List V → Hp → VK → Prop} {t : TA}, CallR X (.type T) R → PA X (e :: es) t → PE X (.Call (.Name x p) (e :: es) [] pos) (tCB R t)) : ME X B (.Call (.Name x p) (e :: es) [] pos) (mCB r m) :=
  ⟨pe_imp (h hc.cr ha.pa) fun _ _ _ q => up_CB hc.mono ha.mono q, mon_CB hc.mono ha.mono⟩
theorem me_callT0 {T : String} (hc : CallD X (.type T) r)
    (h : ∀ {R : List V → Hp → VK → Prop}, CallR X (.type T) R → PE X (.Call (.Name x p) [] [] pos) (tCB R tNil)) : ME X B (.Call (.Name x p) [] [] pos) (mCB r mNil) :=
  ⟨pe_imp (h hc.cr) fun σ H Q q => by
    obtain ⟨lB, env, S, r0, z0, q⟩ := q
    exact ⟨[], S, .nil, z0, q⟩, mon_CB hc.mono fun env S Q Q' i q => i _ _ q⟩

theorem dvs1 {K : PySem.W.Frag} {H : Hp} {d : D} {vs : List V} (h : DVs K H [d] vs) : ∃ v, vs = [v] ∧ DV K H d v := by
  cases h with
  | cons h1 h2 => cases h2; exact ⟨_, rfl, h1⟩
theorem dvs2 {K : PySem.W.Frag} {H : Hp} {d e : D} {vs : List V} (h : DVs K H [d, e] vs) : ∃ v u, vs = [v, u] ∧ DV K H d v ∧ DV K H e u := by
  cases h with
  | cons h1 h2 => cases h2 with
    | cons h2 h3 => cases h3; exact ⟨_, _, rfl, h1, h2⟩
/-- a sequence's items -/
def seqD (S : Sto) : D → Option (List D)
  | .tp _ xs => some xs
  | .rol xs => some xs
  | .ref a => match S a with
    | some (.lst xs) => some xs
    | _ => none
  | _ => none
def flagD : D → Bool
  | .tp f _ => f
  | _ => false
theorem seq_dvT {K : PySem.W.Frag} {P : Program} {w : World} {H : Hp} {S : Sto} {d : D} {v : V} {ds : List D} (h : DV K H d v) (r : Rp K P w S H) (e : seqD S d = some ds) : ∃ p vs, v = .ref p ∧ (SqL K H p vs ∧ flagD d = false ∨ SqT K H p vs ∧ TF H p vs (flagD d)) ∧ DVs K H ds vs := by
  cases h <;> first | (cases e; done) | skip
  · rename_i s z t
    cases e
    exact ⟨_, _, rfl, .inr ⟨s, t⟩, z⟩
  · rename_i s z
    cases e
    exact ⟨_, _, rfl, .inl ⟨s.sq, rfl⟩, z⟩
  · simp only [seqD] at e
    split at e
    · rename_i xs e0
      cases e
      obtain ⟨vs, q, z⟩ := r _ _ e0
      exact ⟨_, vs, rfl, .inl ⟨SqL.of q, rfl⟩, z⟩
    · cases e
theorem seq_dv {K : PySem.W.Frag} {P : Program} {w : World} {H : Hp} {S : Sto} {d : D} {v : V} {ds : List D} (h : DV K H d v) (r : Rp K P w S H) (e : seqD S d = some ds) : ∃ p vs, v = .ref p ∧ (SqL K H p vs ∨ SqT K H p vs) ∧ DVs K H ds vs := by
  obtain ⟨p, vs, e, s, z⟩ := seq_dvT h r e
  exact ⟨p, vs, e, s.imp (fun s => s.1) fun s => s.1, z⟩
/-- a number of items -/
def lenD (S : Sto) : D → Option Nat
  | .str x => some x.length
  | .tp _ xs => some xs.length
  | .rol xs => some xs.length
  | .ref a => match S a with
    | some (.lst xs) => some xs.length
    | some (.dic xs) => some xs.length
    | _ => none
  | _ => none
def vLen : CM := fun ds S Q => match ds with
  | [d] => match lenD S d with
    | some n => Q (.int n) S
    | none => False
  | _ => False
theorem cd_len : CallD X (.builtin "len") vLen := by
  refine calld _ (call_len.or call_lenD) (fun xs H Q ds S h r q => ?_) (fun ds S Q Q' i q => ?_)
  · unfold vLen at q
    split at q
    · rename_i d
      obtain ⟨v, rfl, z⟩ := dvs1 h
      split at q
      · rename_i n e
        cases z with
        | non => cases e
        | bl => cases e
        | int => cases e
        | ty => cases e
        | rod => cases e
        | str x ok => cases e; exact .inl ⟨_, _, rfl, ⟨ok.2, rfl⟩, dn_same q r (.int _)⟩
        | tup s z => cases e; exact .inl ⟨_, _, rfl, .inr ⟨_, s, z.length⟩, dn_same q r (.int _)⟩
        | rol s z => cases e; exact .inl ⟨_, _, rfl, .inl ⟨_, s.sq, z.length⟩, dn_same q r (.int _)⟩
        | ref a =>
          simp only [lenD] at e
          split at e
          · rename_i xs e0
            cases e
            obtain ⟨vs, e1, z⟩ := r _ _ e0
            exact .inl ⟨_, _, rfl, .inl ⟨_, SqL.of e1, z.length⟩, dn_same q r (.int _)⟩
          · rename_i xs e0
            cases e
            obtain ⟨vs, e1, z⟩ := r _ _ e0
            exact .inr ⟨_, vs, rfl, e1, by rw [← z.length]; exact dn_same q r (.int _)⟩
          · cases e
      · exact q.elim
    · exact q.elim
  · unfold vLen at q ⊢
    split at q
    · split at q
      · exact i _ _ q
      · exact q.elim
    · exact q.elim
/-- one int -/
def vI1 (g : Int → D) : CM := fun ds S Q => match ds with
  | [.int i] => Q (g i) S
  | _ => False
theorem mon_I1 {g : Int → D} : ∀ ds S (Q Q' : DQ), (∀ d S, Q d S → Q' d S) → vI1 g ds S Q → vI1 g ds S Q' := fun ds S Q Q' i q => by
  unfold vI1 at q ⊢
  split at q
  · exact i _ _ q
  · exact q.elim
theorem cd_abs : CallD X (.builtin "abs") (vI1 fun i => .int (if i < 0 then -i else i)) := by
  refine calld _ call_abs (fun xs H Q ds S h r q => ?_) mon_I1
  unfold vI1 at q
  split at q
  · obtain ⟨v, rfl, z⟩ := dvs1 h
    cases z
    exact ⟨_, rfl, dn_same q r (.int _)⟩
  · exact q.elim
theorem cd_int : CallD X (.type "int") (vI1 fun i => .int i) := by
  refine calld _ call_int1 (fun xs H Q ds S h r q => ?_) mon_I1
  unfold vI1 at q
  split at q
  · obtain ⟨v, rfl, z⟩ := dvs1 h
    cases z
    exact .inl ⟨_, rfl, dn_same q r (.int _)⟩
  · exact q.elim
def vI2 (g : Int → Int → D) : CM := fun ds S Q => match ds with
  | [.int i, .int j] => Q (g i j) S
  | _ => False
theorem mon_I2 {g : Int → Int → D} : ∀ ds S (Q Q' : DQ), (∀ d S, Q d S → Q' d S) → vI2 g ds S Q → vI2 g ds S Q' := fun ds S Q Q' i q => by
  unfold vI2 at q ⊢
  split at q
  · exact i _ _ q
  · exact q.elim
theorem cd_max (hc : X.calm = true) : CallD X (.builtin "max") (vI2 fun i j => .int (if j > i then j else i)) := by
  refine calld _ (call_max2 hc) (fun xs H Q ds S h r q => ?_) mon_I2
  unfold vI2 at q
  split at q
  · obtain ⟨v, u, rfl, z, z'⟩ := dvs2 h
    cases z; cases z'
    exact ⟨_, _, rfl, dn_same q r (.int _)⟩
  · exact q.elim
theorem cd_min (hc : X.calm = true) : CallD X (.builtin "min") (vI2 fun i j => .int (if j < i then j else i)) := by
  refine calld _ (call_min2 hc) (fun xs H Q ds S h r q => ?_) mon_I2
  unfold vI2 at q
  split at q
  · obtain ⟨v, u, rfl, z, z'⟩ := dvs2 h
    cases z; cases z'
    exact ⟨_, _, rfl, dn_same q r (.int _)⟩
  · exact q.elim
def vList : CM := fun ds S Q => match ds with
  | [d] => match seqD S d with
    | some xs => ∀ p, S p = none → Q (.ref p) (put S p (.lst xs))
    | none => False
  | _ => False
theorem cd_list : CallD X (.type "list") vList := by
  refine calld _ call_list_of (fun xs H Q ds S h r q => ?_) (fun ds S Q Q' i q => ?_)
  · unfold vList at q
    split at q
    · obtain ⟨v, rfl, z⟩ := dvs1 h
      split at q
      · rename_i xs e
        obtain ⟨p, vs, rfl, s, z⟩ := seq_dv z r e
        exact ⟨p, vs, rfl, s, dn_newL q r z⟩
      · exact q.elim
    · exact q.elim
  · unfold vList at q ⊢
    split at q
    · split at q
      · exact fun p hp => i _ _ (q p hp)
      · exact q.elim
    · exact q.elim
def vTuple : CM := fun ds S Q => match ds with
  | [d] => match seqD S d with
    | some xs => Q (.tp (flagD d) xs) S
    | none => False
  | _ => False
theorem cd_tuple : CallD X (.type "tuple") vTuple := by
  refine calld _ call_tuple_of (fun xs H Q ds S h r q => ?_) (fun ds S Q Q' i q => ?_)
  · unfold vTuple at q
    split at q
    · obtain ⟨v, rfl, z⟩ := dvs1 h
      split at q
      · rename_i xs e
        obtain ⟨p, vs, rfl, s, z⟩ := seq_dvT z r e
        rcases s with ⟨s, ef⟩ | ⟨s, t⟩
        · rw [ef] at q
          exact ⟨p, vs, rfl, .inl ⟨s, dn_newT q r z⟩⟩
        · exact ⟨p, vs, rfl, .inr ⟨s, dn_same q r (.tup s z t)⟩⟩
      · exact q.elim
    · exact q.elim
  · unfold vTuple at q ⊢
    split at q
    · split at q
      · exact i _ _ q
      · exact q.elim
    · exact q.elim
end
end DL

set_option Elab.async false
set_option linter.all false
set_option maxRecDepth 100000
set_option maxHeartbeats 4000000
/-! DL4: subscripts, slices, in, isinstance. -/
namespace DL
open PySem L2
/-! ### keys, what a dict holds -/
def keyD : D → Option Key
  | .int i => some (.inl i)
  | .str x => some (.inr x)
  | _ => none
theorem key_dv {K : PySem.W.Frag} {H : Hp} {d : D} {v : V} {k : Key} (h : DV K H d v) (e : keyD d = some k) : v = kV k := by
  cases h <;> first | (cases e; rfl) | cases e
section
variable {κ : Type} [DecidableEq κ]
def valD (kvs : List (κ × D)) (k : κ) : Option D := (kvs.find? fun kv => decide (kv.1 = k)).map (·.2)
def putD (kvs : List (κ × D)) (k : κ) (v : D) : List (κ × D) :=
  if (kvs.any fun kv => decide (kv.1 = k)) = true then kvs.map (fun kv => if kv.1 = k then (kv.1, v) else kv) else kvs ++ [(k, v)]
def dropD (kvs : List (κ × D)) (k : κ) : List (κ × D) := kvs.filter fun kv => decide (kv.1 ≠ k)
variable {K : PySem.W.Frag} {H : Hp} {ds : List (κ × D)} {vs : List (κ × V)}
theorem KVs.val (h : KVs K H ds vs) (k : κ) : (∀ d, valD ds k = some d → ∃ v, valV vs k = some v ∧ DV K H d v) ∧ (valD ds k = none → valV vs k = none) := by
  induction h with
  | nil => exact ⟨(fun d e => nomatch e), fun _ => rfl⟩
  | @cons k' d v ds vs h1 h2 ih =>
    by_cases hk : k' = k
    · subst hk
      have e1 : valD ((k', d) :: ds) k' = some d := by simp [valD]
      rw [e1, valV_pos rfl]
      exact ⟨fun d' e => by cases e; exact ⟨v, rfl, h1⟩, (fun e => nomatch e)⟩
    · have e1 : valD ((k', d) :: ds) k = valD ds k := by simp [valD, hk]
      rw [e1, valV_neg hk]
      exact ih
theorem KVs.any (h : KVs K H ds vs) (k : κ) : (ds.any fun kv => decide (kv.1 = k)) = (vs.any fun kv => decide (kv.1 = k)) := by
  induction h with
  | nil => rfl
  | cons h1 h2 ih => simp only [List.any_cons, ih]
theorem KVs.map (h : KVs K H ds vs) (k : κ) {d : D} {v : V} (z : DV K H d v) : KVs K H (ds.map fun kv => if kv.1 = k then (kv.1, d) else kv) (vs.map fun kv => if kv.1 = k then (kv.1, v) else kv) := by
  induction h with
  | nil => exact .nil
  | @cons k' d' v' ds vs h1 h2 ih =>
    rw [List.map_cons, List.map_cons]
    by_cases hk : k' = k
    · rw [if_pos (show (k', d').1 = k from hk), if_pos (show (k', v').1 = k from hk)]
      exact .cons z ih
    · rw [if_neg (show ¬ (k', d').1 = k from hk), if_neg (show ¬ (k', v').1 = k from hk)]
      exact .cons h1 ih
theorem KVs.append {ds' : List (κ × D)} {vs' : List (κ × V)} (h : KVs K H ds vs) (h' : KVs K H ds' vs') : KVs K H (ds ++ ds') (vs ++ vs') := by
  induction h with
  | nil => exact h'
  | cons h1 h2 ih => exact .cons h1 ih
theorem KVs.put (h : KVs K H ds vs) (k : κ) {d : D} {v : V} (z : DV K H d v) : KVs K H (putD ds k d) (putK vs k v) := by
  unfold putD putK
  rw [h.any k]
  split
  · exact h.map k z
  · exact h.append (.cons z .nil)
theorem KVs.dropp (h : KVs K H ds vs) (k : κ) : KVs K H (dropD ds k) (dropK vs k) := by
  unfold dropD dropK
  induction h with
  | nil => exact .nil
  | @cons k' d' v' ds vs h1 h2 ih =>
    rw [List.filter_cons, List.filter_cons]
    by_cases hk : k' = k
    · rw [if_neg (by simp [hk]), if_neg (by simp [hk])]
      exact ih
    · rw [if_pos (by simp [hk]), if_pos (by simp [hk])]
      exact .cons h1 ih
theorem KVs.mem_key (h : KVs K H ds vs) : ds.map (·.1) = vs.map (·.1) := by
  induction h with
  | nil => rfl
  | cons h1 h2 ih => simp [ih]
end
theorem DVs.atI {K : PySem.W.Frag} {H : Hp} {ds : List D} {vs : List V} {i : Int} {d : D} (h : DVs K H ds vs) (e : L2.atI ds i = some d) : ∃ v, L2.atI vs i = some v ∧ DV K H d v := by
  unfold L2.atI at e ⊢
  rw [← h.length]
  cases q : ixN ds.length i with
  | none => rw [q] at e; cases e
  | some j =>
    rw [q] at e
    exact h.get (show ds[j]? = some d from e)
theorem OkS.one {x : Str} {i : Int} {c : Nat} (h : OkS x) (e : L2.atI x.cps.toList i = some c) : OkS ⟨#[c]⟩ := by
  refine ⟨?_, (show 1 ≤ sizeLine by decide)⟩
  have hm : c ∈ x.cps := by
    unfold L2.atI at e
    cases q : ixN x.cps.toList.length i with
    | none => rw [q] at e; cases e
    | some j =>
      rw [q] at e
      have e' : x.cps.toList[j]? = some c := e
      simpa using List.mem_of_getElem? e'
  have h1 : x.cps.all (· < 0x110000) = true := h.1
  rw [Array.all_eq_true_iff_forall_mem] at h1
  have h2 := h1 c hm
  show (#[c] : Array Nat).all (· < 0x110000) = true
  simpa using h2
section
variable {X : Cx} {B : Hp}
/-! ### d[k], xs[i] -/
def vIx : BM := fun d e S Q => match d, e with
  | .tp _ xs, .int i => match atI xs i with
    | some x => Q x S
    | none => False
  | .rol xs, .int i => match atI xs i with
    | some x => Q x S
    | none => False
  | .str x, .int i => match atI x.cps.toList i with
    | some c => Q (.str ⟨#[c]⟩) S
    | none => False
  | .ref a, e => match S a, e with
    | some (.lst xs), .int i => match atI xs i with
      | some x => Q x S
      | none => False
    | some (.dic kvs), e => match keyD e with
      | some k => match valD kvs k with
        | some x => Q x S
        | none => False
      | none => False
    | _, _ => False
  | _, _ => False
theorem mon_ix : ∀ d e S (Q Q' : DQ), (∀ d S, Q d S → Q' d S) → vIx d e S Q → vIx d e S Q' := by
  intro d e S Q Q' i h
  unfold vIx at h ⊢
  split at h
  · split at h
    · exact i _ _ h
    · exact h.elim
  · split at h
    · exact i _ _ h
    · exact h.elim
  · split at h
    · exact i _ _ h
    · exact h.elim
  · split at h
    · split at h
      · exact i _ _ h
      · exact h.elim
    · split at h
      · split at h
        · exact i _ _ h
        · exact h.elim
      · exact h.elim
    · exact h.elim
  · exact h.elim
/-- a dict's item as a subscript by values -/
theorem ix_dict (hu : X.A.units + 1 < cLine) : IxR X (fun x y H Q => ∃ a v, x = .ref a ∧ DGet H a y (some v) ∧ Q v H) := by
  intro value slice pins s σ H x y v u Q I rx ry h hs
  obtain ⟨a, z, rfl, g, q⟩ := h
  obtain rfl : v = Value.ref a := rx
  refine PyProof.Rows.tail_any (ops := [.ref a, u]) (dict_typeIs I g) PySem.F.slot_dict_getitem.lookup (d_getItem hu I g ry fun w' s3 I3 rw' => ?_) hs
  exact ⟨z, H, I3, rw', q⟩
theorem me_ix {a b : Expr} {ma mb : EM} {pos : Pos} (hu : X.A.units + 1 < cLine) (ha : ME X B a ma) (hb : ME X B b mb) (hs : PlainIx b := by exact fun _ _ => rfl) : ME X B (.Subscript a b pos) (mOp vIx ma mb) := by
  refine ⟨pe_imp (pe_ix (ix_seq.or (ix_dict hu)) ha.pe hb.pe hs) fun σ H Q h => up_two ha.mono hb.mono (fun x y H Q d e S h1 h2 r h => ?_) mon_ix h, mon_op mon_ix ha.mono hb.mono⟩
  unfold vIx at h
  split at h
  · split at h
    · rename_i e0
      cases h2
      cases h1 with
      | tup s z =>
        obtain ⟨v, e1, z1⟩ := z.atI e0
        exact .inl (.inr (.inl ⟨_, _, _, v, rfl, rfl, s, e1, dn_same h r z1⟩))
    · exact h.elim
  · split at h
    · rename_i e0
      cases h2
      cases h1 with
      | rol s z =>
        obtain ⟨v, e1, z1⟩ := z.atI e0
        exact .inl (.inl ⟨_, _, _, v, rfl, rfl, s.sq, e1, dn_same h r z1⟩)
    · exact h.elim
  · split at h
    · rename_i e0
      cases h2
      cases h1 with
      | str x ok =>
        exact .inl (.inr (.inr ⟨_, _, _, rfl, rfl, ok.2, e0, dn_same h r (.str _ (ok.one e0))⟩))
    · exact h.elim
  · split at h
    · rename_i xs i e1
      split at h
      · rename_i e0
        cases h1
        cases h2
        obtain ⟨vs, q1, z1⟩ := r _ _ e1
        obtain ⟨v, e2, z2⟩ := z1.atI e0
        exact .inl (.inl ⟨_, vs, _, v, rfl, rfl, SqL.of q1, e2, dn_same h r z2⟩)
      · exact h.elim
    · rename_i kvs e e1
      split at h
      · rename_i k ek
        split at h
        · rename_i x0 e0
          cases h1
          obtain ⟨vs, q1, z1⟩ := r _ _ e1
          obtain ⟨v, e2, z2⟩ := (z1.val k).1 _ e0
          rw [key_dv h2 ek]
          exact .inr ⟨_, v, rfl, by rw [← e2]; exact DGet.k q1, dn_same h r z2⟩
        · exact h.elim
      · exact h.elim
    · exact h.elim
  · exact h.elim
/-! ### o[i] = v -/
/-- the store behind it -/
def setD (S : Sto) (o i v : D) : Option Sto := match o with
  | .ref a => match S a with
    | some (.lst xs) => match i with
      | .int k => match ixN xs.length k with
        | some j => some (put S a (.lst (xs.set j v)))
        | none => none
      | _ => none
    | some (.dic kvs) => match keyD i with
      | some k => if kvs.length < sizeLine then some (put S a (.dic (putD kvs k v))) else none
      | none => none
    | _ => none
  | _ => none
def rSetA (H0 : V → V → V → Hp → (Hp → Prop) → Prop) : TSet := H0
theorem set_dict (hu : X.A.units + 1 < cLine) : PSet X (fun o i v H Q => ∃ a H', o = .ref a ∧ DPut H a i v H' ∧ Q H') := by
  intro pins s σ H o i v ov iv u Q I ro ri rv h
  obtain ⟨a, H', rfl, g, q⟩ := h
  obtain rfl : ov = Value.ref a := ro
  exact d_setItem hu I g ri rv fun s4 I4 => ⟨H', I4, q⟩
def rSetV (X : Cx) : TSet := fun o i v H Q => ∃ do_ di dv S S', DV X.K H do_ o ∧ DV X.K H di i ∧ DV X.K H dv v ∧ Rp X.K X.prog X.w S H ∧ setD S do_ di dv = some S' ∧ ∀ H', Le H H' → Rp X.K X.prog X.w S' H' → Q H'
theorem set_any (hu : X.A.units + 1 < cLine) : PSet X (rSetV X) := by
  intro pins s σ H o i v ov iv u Q I ro ri rv h
  obtain ⟨do_, di, dv, S, S', h1, h2, h3, r, e, q⟩ := h
  unfold setD at e
  split at e
  · rename_i a
    cases h1
    split at e
    · rename_i xs e0
      split at e
      · rename_i k
        cases h2
        split at e
        · rename_i j ej
          cases e
          obtain ⟨vs, q1, z1⟩ := r _ _ e0
          have mu : Mut (H a) := by rw [q1]; trivial
          refine set_list pins s σ H _ _ v ov iv u Q I ro ri rv ⟨a, vs, k, j, rfl, rfl, q1, by rw [← z1.length]; exact ej, q _ (Le.mut mu) (r.wr mu ⟨_, upd_same, (z1.set h3 j).le (Le.mut mu)⟩)⟩
        · cases e
      · cases e
    · rename_i kvs e0
      split at e
      · rename_i k ek
        split at e
        · rename_i hl
          cases e
          obtain ⟨vs, q1, z1⟩ := r _ _ e0
          have mu : Mut (H a) := by rw [q1]; trivial
          have ev := key_dv h2 ek
          subst ev
          exact set_dict hu pins s σ H _ _ v ov iv u Q I ro ri rv ⟨a, _, rfl, DPut.k q1 (by rw [← z1.length]; exact hl), q _ (Le.mut mu) (r.wr mu ⟨_, upd_same, (z1.put k h3).le (Le.mut mu)⟩)⟩
        · cases e
      · cases e
    · cases e
  · cases e
/-! ### slices -/
abbrev OM := Slo → Sto → (Option Int → Sto → Prop) → Prop
structure MO (X : Cx) (B : Hp) (e : Option Expr) (m : OM) : Prop where
  po : PO X e (fun σ H Q => Le B H ∧ ∃ env S, EnvR X.K H env σ ∧ Rp X.K X.prog X.w S H ∧ m env S fun o S' => ∀ H', Le H H' → Rp X.K X.prog X.w S' H' → Q o H')
  mono : ∀ env S (Q Q' : Option Int → Sto → Prop), (∀ d S, Q d S → Q' d S) → m env S Q → m env S Q'
def mNoP : OM := fun _ S Q => Q none S
def mP (m : EM) : OM := fun env S Q => m env S fun d S1 => match d with
  | .int i => Q (some i) S1
  | _ => False
theorem po_imp {e : Option Expr} {t t' : TO} (h : PO X e t) (i : ∀ σ H Q, t' σ H Q → t σ H Q) : PO X e t' := ⟨fun pins s σ H Q I q => h.run pins s σ H Q I (i σ H Q q)⟩
theorem mo_none : MO X B none mNoP := ⟨po_imp po_none fun σ H Q q => by
  obtain ⟨lB, env, S, r0, z0, q⟩ := q
  exact q H (Le.refl H) z0, fun env S Q Q' i q => i _ _ q⟩
theorem mo_some {e : Expr} {m : EM} (h : ME X B e m) : MO X B (some e) (mP m) := by
  refine ⟨po_imp (po_some h.pe) fun σ H Q q => ?_, fun env S Q Q' i q => h.mono env S _ _ (fun d S1 z => ?_) q⟩
  · obtain ⟨lB, env, S, r0, z0, q⟩ := q
    refine ⟨lB, env, S, r0, z0, h.mono env S _ _ (fun d S1 q v H1 l1 z1 d1 => ?_) q⟩
    cases d1 <;> first | exact ⟨_, rfl, q H1 l1 z1⟩ | exact q.elim
  · cases d <;> first | exact i _ _ z | exact z.elim
def cutD (xs : List D) (lo hi : Option Int) : List D := (xs.drop (HT.sIx xs.length 0 lo)).take (HT.sIx xs.length xs.length hi - HT.sIx xs.length 0 lo)
theorem DVs.cut {K : PySem.W.Frag} {H : Hp} {ds : List D} {vs : List V} (h : DVs K H ds vs) (lo hi : Option Int) : DVs K H (cutD ds lo hi) (cutV vs lo hi) := by
  unfold cutD cutV
  rw [← h.length]
  exact (h.drop _).take _
theorem OkS.cut {x : Str} (h : OkS x) (lo hi : Option Int) : OkS (cutS x lo hi) := by
  refine ⟨?_, ?_⟩
  · have h1 : x.cps.all (· < 0x110000) = true := h.1
    rw [Array.all_eq_true_iff_forall_mem] at h1
    show ((List.take _ (List.drop _ x.cps.toList)).toArray).all (· < 0x110000) = true
    rw [Array.all_eq_true_iff_forall_mem]
    intro c hc
    refine h1 c ?_
    have hc' := List.mem_of_mem_drop (List.mem_of_mem_take (by simpa using hc))
    simpa using hc'
  · refine Nat.le_trans ?_ h.2
    show ((List.take _ (List.drop _ x.cps.toList)).toArray).size ≤ x.cps.size
    rw [List.size_toArray, List.length_take, List.length_drop, Array.length_toList]
    omega
/-- x[lo:hi] by values -/
def vSl (d : D) (lo hi : Option Int) (S : Sto) (Q : DQ) : Prop := match d with
  | .tp f xs => f = false ∧ Q (.tup (cutD xs lo hi)) S
  | .rol xs => ∀ p, S p = none → Q (.ref p) (put S p (.lst (cutD xs lo hi)))
  | .str x => Q (.str (cutS x lo hi)) S
  | .ref a => match S a with
    | some (.lst xs) => ∀ p, S p = none → Q (.ref p) (put S p (.lst (cutD xs lo hi)))
    | _ => False
  | _ => False
theorem mon_sl (d : D) (lo hi : Option Int) (S : Sto) (Q Q' : DQ) (i : ∀ d S, Q d S → Q' d S) (h : vSl d lo hi S Q) : vSl d lo hi S Q' := by
  unfold vSl at h ⊢
  split at h
  · exact ⟨h.1, i _ _ h.2⟩
  · exact fun p hp => i _ _ (h p hp)
  · exact i _ _ h
  · split at h
    · exact fun p hp => i _ _ (h p hp)
    · exact h.elim
  · exact h.elim
theorem whole_cut (xs : List D) (lo hi : Option Int) (h : HT.sIx xs.length 0 lo = 0 ∧ HT.sIx xs.length xs.length hi = xs.length) : cutD xs lo hi = xs := by
  unfold cutD
  rw [h.1, h.2]
  simp
def mSl (m : EM) (lo hi : OM) : EM := fun env S Q => m env S fun d S1 => lo env S1 fun l S2 => hi env S2 fun h S3 => vSl d l h S3 Q
theorem me_sl {e : Expr} {lo hi : Option Expr} {m : EM} {ml mh : OM} {p2 pos : Pos} (h : ME X B e m) (hl : MO X B lo ml) (hh : MO X B hi mh) : ME X B (.Subscript e (.Slice lo hi none p2) pos) (mSl m ml mh) := by
  refine ⟨pe_imp (pe_slice (sl_list.or (sl_tupA.or sl_str)) h.pe hl.po hh.po) fun σ H Q q => ?_,
    fun env S Q Q' i q => h.mono env S _ _ (fun d S1 q => hl.mono env S1 _ _ (fun l S2 q => hh.mono env S2 _ _ (fun u S3 q => mon_sl _ _ _ _ _ _ i q) q) q) q⟩
  obtain ⟨lB, env, S, r0, z0, q⟩ := q
  refine ⟨lB, env, S, r0, z0, h.mono env S _ _ (fun d S1 q v H1 l1 z1 d1 => ?_) q⟩
  refine ⟨lB.trans l1, env, S1, r0.le l1, z1, hl.mono env S1 _ _ (fun l S2 q H2 l2 z2 => ?_) q⟩
  refine ⟨lB.trans (l1.trans l2), env, S2, r0.le (l1.trans l2), z2, hh.mono env S2 _ _ (fun u S3 q H3 l3 z3 => ?_) q⟩
  have l03 := (l1.trans l2).trans l3
  have dv := d1.le (l2.trans l3)
  have q := mon_sl _ _ _ _ _ _ (dnE_le l03) q
  unfold vSl at q
  split at q
  · cases dv with
    | @tup a vs ds f s z t =>
      obtain ⟨ef, qq⟩ := q
      subst ef
      refine .inr (.inl ⟨_, vs, rfl, s, fun hw => ?_, fun _ => dn_newT qq z3 (z.cut l u)⟩)
      refine dn_same qq z3 ?_
      rw [← z.length] at hw
      rw [whole_cut _ _ _ hw]
      exact .tup s z t
  · cases dv with
    | rol s z => exact .inl ⟨_, _, rfl, s.sq, dn_newL q z3 (z.cut l u)⟩
  · cases dv with
    | str x ok => exact .inr (.inr ⟨_, rfl, ok.2, dn_same q z3 (.str _ (ok.cut l u))⟩)
  · cases dv
    split at q
    · rename_i xs e0
      obtain ⟨vs, q1, z⟩ := z3 _ _ e0
      exact .inl ⟨_, vs, rfl, SqL.of q1, dn_newL q z3 (z.cut l u)⟩
    · exact q.elim
  · exact q.elim
/-! ### in, not in -/
def vInG (g : Bool → Bool) : BM := fun d e S Q => match e with
  | .tp f xs => match rs S 40 d, rs S 40 (.tp f xs) with
    | some p, some (.tuple ps) => Q (.bl (g (ps.any fun z => PyData.eqv z p))) S
    | _, _ => False
  | .rol xs => match rs S 40 d, rs S 40 (.rol xs) with
    | some p, some (.list ps) => Q (.bl (g (ps.any fun z => PyData.eqv z p))) S
    | _, _ => False
  | .str z => match d with
    | .str y => match y.cps.toList with
      | [c] => Q (.bl (g (decide (c ∈ z.cps.toList)))) S
      | _ => False
    | _ => False
  | .ref a => match S a with
    | some (.lst _) => match rs S 40 d, rs S 40 (.ref a) with
      | some p, some (.list ps) => Q (.bl (g (ps.any fun z => PyData.eqv z p))) S
      | _, _ => False
    | some (.dic kvs) => match keyD d with
      | some k => Q (.bl (g (valD kvs k).isSome)) S
      | none => False
    | some (.set f _) => match keyD d with
      | some k => Q (.bl (g (f k))) S
      | none => False
    | _ => False
  | _ => False
theorem mon_inG {g : Bool → Bool} : ∀ d e S (Q Q' : DQ), (∀ d S, Q d S → Q' d S) → vInG g d e S Q → vInG g d e S Q' := by
  intro d e S Q Q' i h
  unfold vInG at h ⊢
  split at h
  · split at h
    · exact i _ _ h
    · exact h.elim
  · split at h
    · exact i _ _ h
    · exact h.elim
  · split at h
    · split at h
      · exact i _ _ h
      · exact h.elim
    · exact h.elim
  · split at h
    · split at h
      · exact i _ _ h
      · exact h.elim
    · split at h
      · exact i _ _ h
      · exact h.elim
    · split at h
      · exact i _ _ h
      · exact h.elim
    · exact h.elim
  · exact h.elim
theorem op_inT (hu : X.A.units + 65 < cLine) : OpR X (compareOp .In) (fun x y H Q => ∃ d ds, Dp X.K H x d ∧ Dp X.K H y (.tuple ds) ∧ SeqAt.shaped d = true ∧ SeqAt.shaped (.tuple ds) = true ∧ Q (.bl (ds.any fun z => PyData.eqv z d)) H) := by
  intro pins s σ H x y v u Q I rx ry h
  obtain ⟨d, ds, hd, he, sd, se, q⟩ := h
  obtain ⟨as, r1⟩ := Dp.reads I d x v hd rx
  obtain ⟨bs, r2⟩ := Dp.reads I (.tuple ds) y u he ry
  exact SeqAt.in_tuple_reads r2 r1 (SeqAt.canLay_of_shaped se) (SeqAt.canLay_of_shaped sd) (PyProof.Rows.room_in_shaped sd hu) ⟨.bl _, H, I, rfl, q⟩
theorem op_notInT (hu : X.A.units + 65 < cLine) : OpR X (compareOp .NotIn) (fun x y H Q => ∃ d ds, Dp X.K H x d ∧ Dp X.K H y (.tuple ds) ∧ SeqAt.shaped d = true ∧ SeqAt.shaped (.tuple ds) = true ∧ Q (.bl (!ds.any fun z => PyData.eqv z d)) H) := by
  intro pins s σ H x y v u Q I rx ry h
  obtain ⟨d, ds, hd, he, sd, se, q⟩ := h
  obtain ⟨as, r1⟩ := Dp.reads I d x v hd rx
  obtain ⟨bs, r2⟩ := Dp.reads I (.tuple ds) y u he ry
  exact SeqAt.notIn_tuple_reads r2 r1 (SeqAt.canLay_of_shaped se) (SeqAt.canLay_of_shaped sd) (PyProof.Rows.room_in_shaped sd hu) ⟨.bl _, H, I, rfl, q⟩
theorem op_inDi (hu : X.A.units + 1 < cLine) : OpR X (compareOp .In) (fun x y H Q => ∃ a o, y = .ref a ∧ DGet H a x o ∧ Q (.bl o.isSome) H) := by
  intro pins s σ H x y v u Q I rx ry h
  obtain ⟨a, o, rfl, g, q⟩ := h
  obtain rfl : u = Value.ref a := ry
  exact d_in hu I g rx fun s3 I3 => ⟨.bl o.isSome, H, I3, rfl, q⟩
theorem op_notInDi (hu : X.A.units + 1 < cLine) : OpR X (compareOp .NotIn) (fun x y H Q => ∃ a o, y = .ref a ∧ DGet H a x o ∧ Q (.bl (!o.isSome)) H) := by
  intro pins s σ H x y v u Q I rx ry h
  obtain ⟨a, o, rfl, g, q⟩ := h
  obtain rfl : u = Value.ref a := ry
  exact d_notIn hu I g rx fun s3 I3 => ⟨.bl (!o.isSome), H, I3, rfl, q⟩
theorem isSome_val {κ : Type} [DecidableEq κ] {K : PySem.W.Frag} {H : Hp} {ds : List (κ × D)} {vs : List (κ × V)} (h : KVs K H ds vs) (k : κ) : (valV vs k).isSome = (valD ds k).isSome := by
  obtain ⟨h1, h2⟩ := h.val k
  cases e : valD ds k with
  | none => rw [h2 e]; rfl
  | some d =>
    obtain ⟨v, e1, _⟩ := h1 d e
    rw [e1]
    rfl
theorem od_inG {f : Value → Value → Sem Value} {g : Bool → Bool}
    (hT : OpR X f (fun x y H Q => ∃ d ds, Dp X.K H x d ∧ Dp X.K H y (.tuple ds) ∧ SeqAt.shaped d = true ∧ SeqAt.shaped (.tuple ds) = true ∧ Q (.bl (g (ds.any fun z => PyData.eqv z d))) H))
    (hL : OpR X f (fun x y H Q => ∃ d ds, Dp X.K H x d ∧ Dp X.K H y (.list ds) ∧ SeqAt.shaped d = true ∧ SeqAt.shaped (.list ds) = true ∧ Q (.bl (g (ds.any fun z => PyData.eqv z d))) H))
    (hS : OpR X f (fun x y H Q => ∃ (c : Nat) (z : Str), x = .str ⟨#[c]⟩ ∧ y = .str z ∧ Q (.bl (g (decide (c ∈ z.cps.toList)))) H))
    (hD : OpR X f (fun x y H Q => ∃ a o, y = .ref a ∧ DGet H a x o ∧ Q (.bl (g o.isSome)) H))
    (hK : OpR X f (fun x y H Q => ∃ (k : Key) (a : Addr) (S : Key → Bool) (n : Nat), x = kV k ∧ y = V.ref a ∧ H a = some (SetK X.prog X.w a S n) ∧ Q (.bl (g (S k))) H)) : OpD X f (vInG g) := by
  refine opd _ ((hT.or hL).or (hS.or (hD.or hK))) (fun x y H Q d e S h1 h2 r h => ?_) mon_inG
  unfold vInG at h
  split at h
  · split at h
    · rename_i p ps e1 e2
      obtain ⟨a1, a2⟩ := rs_shaped r h1 e1
      obtain ⟨b1, b2⟩ := rs_shaped r h2 e2
      exact .inl (.inl ⟨p, ps, a1, b1, a2, b2, dn_same h r (.bl _)⟩)
    · exact h.elim
  · split at h
    · rename_i p ps e1 e2
      obtain ⟨a1, a2⟩ := rs_shaped r h1 e1
      obtain ⟨b1, b2⟩ := rs_shaped r h2 e2
      exact .inl (.inr ⟨p, ps, a1, b1, a2, b2, dn_same h r (.bl _)⟩)
    · exact h.elim
  · split at h
    · rename_i y0
      cases h1
      cases h2
      split at h
      · rename_i c ec
        have ey : y0 = ⟨#[c]⟩ := by
          obtain ⟨⟨l⟩⟩ := y0
          have : l = [c] := ec
          subst this
          rfl
        subst ey
        exact .inr (.inl ⟨c, _, rfl, rfl, dn_same h r (.bl _)⟩)
      · exact h.elim
    · exact h.elim
  · split at h
    · split at h
      · rename_i p ps e1 e2
        obtain ⟨a1, a2⟩ := rs_shaped r h1 e1
        obtain ⟨b1, b2⟩ := rs_shaped r h2 e2
        exact .inl (.inr ⟨p, ps, a1, b1, a2, b2, dn_same h r (.bl _)⟩)
      · exact h.elim
    · rename_i kvs e0
      split at h
      · rename_i k ek
        cases h2
        obtain ⟨vs, q1, z1⟩ := r _ _ e0
        rw [key_dv h1 ek]
        exact .inr (.inr (.inl ⟨_, _, rfl, DGet.k q1, by rw [isSome_val z1]; exact dn_same h r (.bl _)⟩))
      · exact h.elim
    · rename_i f0 n0 e0
      split at h
      · rename_i k ek
        cases h2
        have q1 := r _ _ e0
        rw [key_dv h1 ek]
        exact .inr (.inr (.inr ⟨k, _, f0, n0, rfl, rfl, q1, dn_same h r (.bl _)⟩))
      · exact h.elim
    · exact h.elim
  · exact h.elim
abbrev vIn : BM := vInG fun b => b
abbrev vNotIn : BM := vInG fun b => !b
theorem od_in (hu : X.A.units + 65 < cLine) : OpD X (compareOp .In) vIn := od_inG (op_inT hu) (op_inD hu) op_in_sign (op_inDi (by omega)) or_sinK
theorem od_notin (hu : X.A.units + 65 < cLine) : OpD X (compareOp .NotIn) vNotIn := od_inG (op_notInT hu) (op_notInD hu) op_notIn_sign (op_notInDi (by omega)) or_snotinK
/-! ### isinstance -/
/-- a value's built-in type -/
def tyD (S : Sto) : D → Option String
  | .non => some "NoneType"
  | .bl _ => some "bool"
  | .int _ => some "int"
  | .str _ => some "str"
  | .tp _ _ => some "tuple"
  | .rol _ => some "list"
  | .ref a => match S a with
    | some (.lst _) => some "list"
    | some (.dic _) => some "dict"
    | some (.dit _) => some "dict"
    | _ => none
  | .ty _ => none
  | .rod _ _ => none
/-- is a value of the type a an instance of b -/
def isiT (a b : String) : Option Bool := match b with
  | "str" => some (a == "str")
  | "tuple" => some (a == "tuple")
  | "list" => some (a == "list")
  | "dict" => some (a == "dict")
  | "bool" => some (a == "bool")
  | "int" => some (a == "int" || a == "bool")
  | _ => none
def vIsi : CM := fun ds S Q => match ds with
  | [d, .ty b] => match tyD S d with
    | some a => match isiT a b with
      | some c => Q (.bl c) S
      | none => False
    | none => False
  | _ => False
def sixTypes : List String := ["NoneType", "bool", "int", "str", "tuple", "list", "dict"]
theorem isi_all : ∀ a ∈ sixTypes, ∀ b ∈ ["str", "tuple", "list", "dict", "bool", "int"], kitB a b = isiT a b := by decide +kernel
theorem ty_dv {K : PySem.W.Frag} {P : Program} {w : World} {H : Hp} {S : Sto} {d : D} {v : V} {a : String} (h : DV K H d v) (r : Rp K P w S H) (e : tyD S d = some a) : TyX K H v (.type a) ∧ a ∈ sixTypes := by
  cases h with
  | non => cases e; exact ⟨.base .non, by decide⟩
  | bl => cases e; exact ⟨.base (.bl _), by decide⟩
  | int => cases e; exact ⟨.base (.int _), by decide⟩
  | str => cases e; exact ⟨.base (.str _), by decide⟩
  | ty => cases e
  | rod => cases e
  | tup s z =>
    cases e
    refine ⟨?_, by decide⟩
    rcases s with (s | ⟨o, s⟩) | ⟨o, its, n, h1, h2, _⟩
    · exact .base (.tup s)
    · exact .fTuple s
    · exact .kTuple h1 h2
  | rol s z =>
    cases e
    refine ⟨?_, by decide⟩
    rcases s with ⟨o, s⟩ | ⟨o, its, n, h1, h2, _⟩
    · exact .base (.frz s)
    · exact .kList h1 h2
  | ref a =>
    simp only [tyD] at e
    split at e
    · rename_i xs e0
      obtain ⟨vs, q, z⟩ := r _ _ e0
      cases e
      exact ⟨.base (.lst q), by decide⟩
    · rename_i xs e0
      obtain ⟨vs, q, z⟩ := r _ _ e0
      cases e
      exact ⟨.base (.dK q), by decide⟩
    · rename_i xs e0
      obtain ⟨vs, q, z⟩ := r _ _ e0
      cases e
      exact ⟨.base (.dT q), by decide⟩
    · cases e
theorem isiT_dom {a b : String} {c : Bool} (e : isiT a b = some c) : b ∈ ["str", "tuple", "list", "dict", "bool", "int"] := by
  unfold isiT at e
  split at e <;> first | decide | cases e
theorem cd_isi : CallD X (.builtin "isinstance") vIsi := by
  refine calld _ call_isi (fun xs H Q ds S h r q => ?_) (fun ds S Q Q' i q => ?_)
  · unfold vIsi at q
    split at q
    · obtain ⟨v, u, rfl, z, z'⟩ := dvs2 h
      cases z'
      split at q
      · rename_i a e1
        split at q
        · rename_i c e2
          obtain ⟨t1, t2⟩ := ty_dv z r e1
          exact ⟨_, _, _, _, c, rfl, .ty _, t1, kit_ty ((isi_all _ t2 _ (isiT_dom e2)).trans e2), dn_same q r (.bl _)⟩
        · exact q.elim
      · exact q.elim
    · exact q.elim
  · unfold vIsi at q ⊢
    split at q
    · split at q
      · split at q
        · exact i _ _ q
        · exact q.elim
      · exact q.elim
    · exact q.elim
end
end DL

set_option Elab.async false
set_option linter.all false
set_option maxRecDepth 100000
set_option maxHeartbeats 4000000
/-! DL5: statements, targets, loops. -/
namespace DL
open PySem L2
section
variable {X : Cx} {B : Hp} {st : Stmt} {rest : List Stmt} {m n : SM} {e : Expr} {me : EM} {pos : Pos}
/-! ### blocks -/
def mNx : SM := fun A env S => A.nx env S
def mSeq (m n : SM) : SM := fun A env S => m { A with nx := n A } env S
theorem mon_nx : MonS mNx := fun A B env S l h => l.nx _ _ h
theorem MonS.go (h : MonS m) {A A' : Fin} {env : Slo} {S : Sto} (q : m A env S) (l : FinLe A A') : m A' env S := h A A' env S l q
theorem mon_seq (h1 : MonS m) (h2 : MonS n) : MonS (mSeq m n) := fun A B env S l h =>
  h1.go (A := { A with nx := n A }) (A' := { B with nx := n B }) h ⟨fun e s q => h2 A B e s l q, l.rt, l.bk, l.ct⟩
theorem mss_nil : MSs X B [] mNx := ⟨pss_imp pss_nil fun D σ H q => by
  obtain ⟨lB, env, S, r0, z0, q⟩ := q
  exact q σ H (Le.refl H) r0 z0, mon_nx⟩
theorem mss_cons (h1 : MS X B st m) (h2 : MSs X B rest n) : MSs X B (st :: rest) (mSeq m n) := by
  refine ⟨pss_imp (pss_cons h1.ps h2.ps) fun D σ H q => ?_, mon_seq h1.mono h2.mono⟩
  obtain ⟨lB, env, S, r0, z0, q⟩ := q
  refine ⟨lB, env, S, r0, z0, h1.mono.go (A := { dnF X.K X.prog X.w H D with nx := n (dnF X.K X.prog X.w H D) }) q ⟨fun e s q σ' H' l r z => ?_, fun _ _ q => q, fun _ _ q => q, fun _ _ q => q⟩⟩
  exact ⟨lB.trans l, e, s, r, z, h2.mono.go q (dnF_le l)⟩
theorem mss_one (h1 : MS X B st m) : MSs X B [st] m := ⟨pss_one h1.ps, h1.mono⟩
def mBrk : SM := fun A env S => A.bk env S
def mCnt : SM := fun A env S => A.ct env S
theorem ms_pass : MS X B (.Pass pos) mNx := ⟨ps_imp ps_pass fun D σ H q => by
  obtain ⟨lB, env, S, r0, z0, q⟩ := q
  exact q σ H (Le.refl H) r0 z0, mon_nx⟩
theorem ms_break : MS X B (.Break pos) mBrk := ⟨ps_imp ps_break fun D σ H q => by
  obtain ⟨lB, env, S, r0, z0, q⟩ := q
  exact q σ H (Le.refl H) r0 z0, fun A B env S l h => l.bk _ _ h⟩
theorem ms_continue : MS X B (.Continue pos) mCnt := ⟨ps_imp ps_continue fun D σ H q => by
  obtain ⟨lB, env, S, r0, z0, q⟩ := q
  exact q σ H (Le.refl H) r0 z0, fun A B env S l h => l.ct _ _ h⟩
def mDrop (m : EM) : SM := fun A env S => m env S fun _ S1 => A.nx env S1
theorem ms_expr (h : ME X B e me) (hs : swapsWith e none pos.line X.env = pure false := by rfl) : MS X B (.Expr e pos) (mDrop me) := by
  refine ⟨ps_imp (ps_expr h.pe hs) fun D σ H q => ?_, fun A B env S l q => h.mono env S _ _ (fun d S1 q => l.nx _ _ q) q⟩
  obtain ⟨lB, env, S, r0, z0, q⟩ := q
  exact ⟨lB, env, S, r0, z0, h.mono env S _ _ (fun d S1 q v H1 l z dv => q σ H1 l (r0.le l) z) q⟩
def mRet (m : EM) : SM := fun A env S => m env S A.rt
theorem ms_ret (h : ME X B e me) : MS X B (.Return (some e) pos) (mRet me) := by
  refine ⟨ps_imp (ps_ret h.pe) fun D σ H q => ?_, fun A B env S l q => h.mono env S _ _ (fun d S1 q => l.rt _ _ q) q⟩
  obtain ⟨lB, env, S, r0, z0, q⟩ := q
  exact ⟨lB, env, S, r0, z0, q⟩
def mRetN : SM := fun A _ S => A.rt .non S
theorem ms_retN : MS X B (.Return none pos) mRetN := ⟨ps_imp ps_retN fun D σ H q => by
  obtain ⟨lB, env, S, r0, z0, q⟩ := q
  exact q _ H (Le.refl H) z0 .non, fun A B env S l h => l.rt _ _ h⟩
def mIf (t : TM) (m n : SM) : SM := fun A env S => t env S fun b S1 => match b with
  | true => m A env S1
  | false => n A env S1
theorem ms_if {c : Expr} {a b : List Stmt} {t : TM} (hc : MT X B c t) (ha : MSs X B a m) (hb : MSs X B b n) : MS X B (.If c a b pos) (mIf t m n) := by
  refine ⟨ps_imp (ps_if hc.pt ha.ps hb.ps) fun D σ H q => ?_, fun A B env S l q => hc.mono env S _ _ (fun c S1 z => ?_) q⟩
  · obtain ⟨lB, env, S, r0, z0, q⟩ := q
    refine ⟨lB, env, S, r0, z0, hc.mono env S _ _ (fun c S1 q H1 l z => ?_) q⟩
    cases c with
    | true =>
      show upS X.K X.prog X.w B m D σ H1
      exact ⟨lB.trans l, env, S1, r0.le l, z, ha.mono _ _ env S1 (dnF_le l) q⟩
    | false =>
      show upS X.K X.prog X.w B n D σ H1
      exact ⟨lB.trans l, env, S1, r0.le l, z, hb.mono _ _ env S1 (dnF_le l) q⟩
  · cases c with
    | true => exact ha.mono _ _ env S1 l z
    | false => exact hb.mono _ _ env S1 l z
/-! ### targets -/
abbrev GM := D → Slo → Sto → (Slo → Sto → Prop) → Prop
abbrev GsM := List D → Slo → Sto → (Slo → Sto → Prop) → Prop
def dnN (K : PySem.W.Frag) (P : Program) (w : World) (H : Hp) (Q : L2.St → Hp → Prop) : Slo → Sto → Prop := fun env' S' => ∀ σ' H', Le H H' → EnvR K H' env' σ' → Rp K P w S' H' → Q σ' H'
structure MG (X : Cx) (B : Hp) (tg : Expr) (g : GM) : Prop where
  pg : PG X tg fun v σ H Q => Le B H ∧ ∃ d env S, DV X.K H d v ∧ EnvR X.K H env σ ∧ Rp X.K X.prog X.w S H ∧ g d env S (dnN X.K X.prog X.w H Q)
  mono : ∀ d env S (Q Q' : Slo → Sto → Prop), (∀ e S, Q e S → Q' e S) → g d env S Q → g d env S Q'
structure MGs (X : Cx) (B : Hp) (tg : List Expr) (g : GsM) : Prop where
  pg : PGs X tg fun v σ H Q => Le B H ∧ ∃ d env S, DVs X.K H d v ∧ EnvR X.K H env σ ∧ Rp X.K X.prog X.w S H ∧ g d env S (dnN X.K X.prog X.w H Q)
  mono : ∀ d env S (Q Q' : Slo → Sto → Prop), (∀ e S, Q e S → Q' e S) → g d env S Q → g d env S Q'
theorem pg_imp {tg : Expr} {t t' : TG} (h : PG X tg t) (i : ∀ v σ H Q, t' v σ H Q → t v σ H Q) : PG X tg t' := ⟨fun pins s σ H v u Q I r q => h.run pins s σ H v u Q I r (i v σ H Q q)⟩
theorem pgs_imp {tg : List Expr} {t t' : TGs} (h : PGs X tg t) (i : ∀ v σ H Q, t' v σ H Q → t v σ H Q) : PGs X tg t' := ⟨fun pins s σ H v u Q I r q => h.run pins s σ H v u Q I r (i v σ H Q q)⟩
def gNm (i : Nat) : GM := fun d env S Q => Q (env.set i (some d)) S
theorem mg_name {i : Nat} {x : Str} (h : PG X (.Name x pos) (gName i)) : MG X B (.Name x pos) (gNm i) := by
  refine ⟨pg_imp h fun v σ H Q q => ?_, fun d env S Q Q' i q => i _ _ q⟩
  obtain ⟨lB, d, env, S, dv, r0, z0, q⟩ := q
  exact q _ H (Le.refl H) (r0.set dv i) z0
def gN : GsM := fun ds env S Q => match ds with
  | [] => Q env S
  | _ => False
def gC (g : GM) (gs : GsM) : GsM := fun ds env S Q => match ds with
  | d :: r => g d env S fun env' S' => gs r env' S' Q
  | _ => False
theorem mgs_nil : MGs X B [] gN := by
  refine ⟨pgs_imp pgs_nil fun v σ H Q q => ?_, fun d env S Q Q' i q => ?_⟩
  · obtain ⟨lB, d, env, S, dv, r0, z0, q⟩ := q
    cases dv with
    | nil => exact ⟨rfl, q _ H (Le.refl H) r0 z0⟩
    | cons => exact q.elim
  · cases d with
    | nil => exact i _ _ q
    | cons => exact q.elim
theorem mgs_cons {e : Expr} {es : List Expr} {g : GM} {gs : GsM} (h1 : MG X B e g) (h2 : MGs X B es gs) (hs : (assignEach (e :: es) X.env).map (·.2) = assign e X.env :: (assignEach es X.env).map (·.2) := by rfl) : MGs X B (e :: es) (gC g gs) := by
  refine ⟨pgs_imp (pgs_cons h1.pg h2.pg hs) fun v σ H Q q => ?_, fun d env S Q Q' i q => ?_⟩
  · obtain ⟨lB, d, env, S, dv, r0, z0, q⟩ := q
    cases dv with
    | nil => exact q.elim
    | @cons d ds v vs dv dvs =>
      refine ⟨v, vs, rfl, lB, d, env, S, dv, r0, z0, h1.mono _ _ _ _ _ (fun env' S' q σ' H' l r z => ?_) q⟩
      exact ⟨lB.trans l, ds, env', S', dvs.le l, r, z, h2.mono _ _ _ _ _ (fun e s q σ2 H2 l2 r2 z2 => q σ2 H2 (l.trans l2) r2 z2) q⟩
  · cases d with
    | nil => exact q.elim
    | cons d ds => exact h1.mono _ _ _ _ _ (fun e s q => h2.mono _ _ _ _ _ i q) q
/-- (a, b, ..) = a tuple of that length -/
def gT (n : Nat) (gs : GsM) : GM := fun d env S Q => match d with
  | .tp _ ds => ds.length = n ∧ gs ds env S Q
  | _ => False
theorem mg_tup {es : List Expr} {k n : Nat} {gs : GsM} (hc : X.calm = true) (h : MGs X B es gs) (hn : (assignEach es X.env).length = n := by rfl) (hst : (assignEach es X.env).findIdx? (·.1) = none := by rfl) : MG X B (.Tuple es k pos) (gT n gs) := by
  refine ⟨pg_imp (pg_tup hc h.pg hn hst) fun v σ H Q q => ?_, fun d env S Q Q' i q => ?_⟩
  · obtain ⟨lB, d, env, S, dv, r0, z0, q⟩ := q
    cases dv with
    | tup s z => exact ⟨_, _, rfl, s, by rw [← z.length]; exact q.1, lB, _, env, S, z, r0, z0, q.2⟩
    | _ => exact (show False from q).elim
  · cases d with
    | tp _ ds => exact ⟨q.1, h.mono _ _ _ _ _ i q.2⟩
    | _ => exact (show False from q).elim
/-- o[i] = .. -/
def gIx (mo mi : EM) : GM := fun d env S Q => mo env S fun o S1 => mi env S1 fun i S2 => match setD S2 o i d with
  | some S3 => Q env S3
  | none => False
theorem mg_sub {o i : Expr} {mo mi : EM} (hu : X.A.units + 1 < cLine) (ho : ME X B o mo) (hi : ME X B i mi)
    (ha : ∀ v, assign (.Subscript o i pos) X.env v = (do
      let ov ← holding [v] (eval o X.env)
      let iv ← holding [v, ov] (eval i X.env)
      standAt pos
      holding [v, ov, iv] (setItem ov iv v)
      release [v, ov, iv] []) := by intro _; rfl) : MG X B (.Subscript o i pos) (gIx mo mi) := by
  refine ⟨pg_imp (pg_sub ho.pe hi.pe (set_any hu) ha) fun v σ H Q q => ?_, fun d env S Q Q' i q => ho.mono env S _ _ (fun o S1 q => hi.mono env S1 _ _ (fun j S2 q => ?_) q) q⟩
  · obtain ⟨lB, d, env, S, dv, r0, z0, q⟩ := q
    refine ⟨lB, env, S, r0, z0, ho.mono env S _ _ (fun o S1 q v1 H1 l1 z1 d1 => ?_) q⟩
    refine ⟨lB.trans l1, env, S1, r0.le l1, z1, hi.mono env S1 _ _ (fun j S2 q v2 H2 l2 z2 d2 => ?_) q⟩
    split at q
    · rename_i S3 e
      exact ⟨o, j, d, S2, S3, d1.le l2, d2, dv.le (l1.trans l2), z2, e, fun H3 l3 z3 => q _ H3 ((l1.trans l2).trans l3) (r0.le ((l1.trans l2).trans l3)) z3⟩
    · exact q.elim
  · split at q
    · exact i _ _ q
    · exact q.elim
def mAsg (m : EM) (g : GM) : SM := fun A env S => m env S fun d S1 => g d env S1 A.nx
theorem ms_asg {tg : Expr} {g : GM} (he : ME X B e me) (hg : MG X B tg g) (hs : swapsWithSole [tg] e pos.line X.env = pure false := by rfl) (hw : swappedStores [tg] e X.env = pure none := by rfl)
    (h1 : (assignEach [tg] X.env).map (·.2) = [assign tg X.env] := by rfl) : MS X B (.Assign [tg] e pos) (mAsg me g) := by
  refine ⟨ps_imp (ps_asg he.pe hg.pg hs hw h1) fun D σ H q => ?_, fun A B env S l q => he.mono env S _ _ (fun d S1 q => hg.mono _ _ _ _ _ l.nx q) q⟩
  obtain ⟨lB, env, S, r0, z0, q⟩ := q
  refine ⟨lB, env, S, r0, z0, he.mono env S _ _ (fun d S1 q v H1 l z dv => ?_) q⟩
  exact ⟨lB.trans l, d, env, S1, dv, r0.le l, z, hg.mono _ _ _ _ _ (fun e s q σ2 H2 l2 r2 z2 => q σ2 H2 (l.trans l2) r2 z2) q⟩
/-- x = e -/
theorem ms_set {i : Nat} {x : Str} {pos' : Pos} (he : ME X B e me) (h : ∀ {te : TE}, PE X e te → PS X (.Assign [.Name x pos'] e pos) (tAsg te (gName i))) : MS X B (.Assign [.Name x pos'] e pos) (mAsg me (gNm i)) := by
  refine ⟨ps_imp (h he.pe) fun D σ H q => ?_, fun A B env S l q => he.mono env S _ _ (fun d S1 q => l.nx _ _ q) q⟩
  obtain ⟨lB, env, S, r0, z0, q⟩ := q
  refine ⟨lB, env, S, r0, z0, he.mono env S _ _ (fun d S1 q v H1 l z dv => ?_) q⟩
  exact q _ H1 l ((r0.le l).set dv i) z
/-! ### op= -/
theorem od_iadd : OpD X (inplaceOp .Add) (fun d e S Q => match d, e with
    | .int i, .int j => Q (.int (i + j)) S
    | .str i, .str j => i.length + j.length ≤ sizeLine ∧ Q (.str (i ++ j)) S
    | _, _ => False) := by
  refine opd _ (iop_add.or iop_add_str) (fun x y H Q d e S h1 h2 r h => ?_) (fun d e S Q Q' i h => ?_)
  · cases h1 <;> cases h2 <;> first | exact h.elim | skip
    · exact .inl ⟨_, _, rfl, rfl, dn_same h r (.int _)⟩
    · rename_i i o1 j o2
      exact .inr ⟨_, _, rfl, rfl, h.1, dn_same h.2 r (.str _ (o1.append o2 h.1))⟩
  · cases d <;> cases e <;> first | exact h.elim | exact i _ _ h | exact ⟨h.1, i _ _ h.2⟩
def vIadd : BM := fun d e S Q => match d, e with
    | .int i, .int j => Q (.int (i + j)) S
    | .str i, .str j => i.length + j.length ≤ sizeLine ∧ Q (.str (i ++ j)) S
    | _, _ => False
theorem od_iad : OpD X (inplaceOp .Add) vIadd := od_iadd
theorem od_imul : OpD X (inplaceOp .Mult) (vI CMul fun i j => .int (i * j)) := od_I iop_mul
def mAug (i : Nat) (m : EM) (r : BM) : SM := fun A env S => match env[i]? with
  | some (some d) => m env S fun y S1 => r d y S1 fun z S2 => A.nx (env.set i (some z)) S2
  | _ => False
theorem ms_aug {i : Nat} {x : Str} {op : Operator} {r : BM} {pos' : Pos} (he : ME X B e me) (ho : OpD X (inplaceOp op) r) (h : ∀ {te : TE} {ti : TIp}, PE X e te → PIp X op ti → PS X (.AugAssign (.Name x pos') op e pos) (tAug i te ti)) :
    MS X B (.AugAssign (.Name x pos') op e pos) (mAug i me r) := by
  refine ⟨ps_imp (h he.pe ho.op) fun D σ H q => ?_, fun A B env S l q => ?_⟩
  · obtain ⟨lB, env, S, r0, z0, q⟩ := q
    unfold mAug at q
    split at q
    · rename_i d ed
      obtain ⟨v, ev, dv⟩ := r0.at_ _ _ ed
      refine ⟨v, ev, lB, env, S, r0, z0, he.mono env S _ _ (fun y S1 q u H1 l1 z1 d1 => ?_) q⟩
      refine ⟨d, y, S1, dv.le l1, d1, z1, ho.mono _ _ _ _ _ (fun z S2 q v2 H2 l2 z2 d2 => ?_) q⟩
      exact q _ H2 (l1.trans l2) ((r0.le (l1.trans l2)).set d2 i) z2
    · exact q.elim
  · unfold mAug at q ⊢
    split at q
    · exact he.mono env S _ _ (fun y S1 q => ho.mono _ _ _ _ _ (fun z S2 q => l.nx _ _ q) q) q
    · exact q.elim
/-- o[i] read: a list at a place from the front, a dict -/
theorem get_any (hu : X.A.units + 1 < cLine) : PGet X (fun o i H Q => ∃ d e S, DV X.K H d o ∧ DV X.K H e i ∧ Rp X.K X.prog X.w S H ∧ (∃ a, d = .ref a) ∧ (∀ k, e = .int k → 0 ≤ k) ∧ vIx d e S (dnE X.K X.prog X.w H Q)) := by
  intro pins s σ H o i ov iv Q I ro ri h
  obtain ⟨d, e, S, h1, h2, r, ⟨a, rfl⟩, h0, q⟩ := h
  cases h1
  obtain rfl : ov = Value.ref a := ro
  unfold vIx at q
  dsimp only at q
  split at q
  · rename_i xs k e1
    split at q
    · rename_i x0 e0
      cases h2
      obtain ⟨t, rfl⟩ := ri
      obtain ⟨vs, q1, z1⟩ := r _ _ e1
      obtain ⟨v, e2, z2⟩ := z1.atI e0
      obtain ⟨its, rv, pl, hz⟩ := I.list (SqL.of q1)
      obtain ⟨j, g1, g2, g3, g4, g5⟩ := atI_get e2
      obtain ⟨u, ew, rw'⟩ := rv.get g2
      have hk := h0 _ rfl
      have hj : k.toNat = j := by
        rw [seqIndex_of hk g5] at g1
        exact Option.some.inj g1
      have hl := rv.length
      have hn := line63
      refine wpAny_getItem_list pl.isList hk (by omega) (by rw [hj]; simpa using ew) ?_
      exact ⟨v, H, I, rw', dn_same q r z2⟩
    · exact q.elim
  · rename_i kvs e e1
    split at q
    · rename_i k ek
      split at q
      · rename_i x0 e0
        obtain ⟨vs, q1, z1⟩ := r _ _ e1
        obtain ⟨v, e2, z2⟩ := (z1.val k).1 _ e0
        have ev := key_dv h2 ek
        subst ev
        refine d_getItem hu I (by rw [← e2]; exact DGet.k q1) ri fun w' s3 I3 rw' => ⟨v, H, I3, rw', dn_same q r z2⟩
      · exact q.elim
    · exact q.elim
  · exact q.elim
/-- o[i] op= e -/
def mAugS (mo mi m : EM) (r : BM) : SM := fun A env S => mo env S fun o S1 => mi env S1 fun i S2 => (match o with
  | .ref _ => True
  | _ => False) ∧ (match i with
  | .int k => 0 ≤ k
  | _ => True) ∧ vIx o i S2 fun x S3 => m env S3 fun y S4 => r x y S4 fun z S5 => match setD S5 o i z with
    | some S6 => A.nx env S6
    | none => False
theorem ms_augS {o i : Expr} {mo mi : EM} {op : Operator} {r : BM} {tpos : Pos} (hu : X.A.units + 1 < cLine) (ho : ME X B o mo) (hi : ME X B i mi) (he : ME X B e me) (hop : OpD X (inplaceOp op) r)
    (ha : ∀ ov iv new, augStore i ov iv new = (do holding [new, ov, iv] (setItem ov iv new); release [new, ov, iv] []; pure .next) := by intros; rfl) : MS X B (.AugAssign (.Subscript o i tpos) op e pos) (mAugS mo mi me r) := by
  refine ⟨ps_imp (ps_augS ho.pe hi.pe (get_any hu) he.pe hop.op (set_any hu) ha) fun D σ H q => ?_, fun A B env S l q => ho.mono env S _ _ (fun o S1 q => hi.mono env S1 _ _ (fun j S2 q => ⟨q.1, q.2.1, mon_ix _ _ _ _ _ (fun x S3 q => he.mono env S3 _ _ (fun y S4 q => hop.mono _ _ _ _ _ (fun z S5 q => ?_) q) q) q.2.2⟩) q) q⟩
  · obtain ⟨lB, env, S, r0, z0, q⟩ := q
    refine ⟨lB, env, S, r0, z0, ho.mono env S _ _ (fun o S1 q v1 H1 l1 z1 d1 => ?_) q⟩
    refine ⟨lB.trans l1, env, S1, r0.le l1, z1, hi.mono env S1 _ _ (fun j S2 q v2 H2 l2 z2 d2 => ?_) q⟩
    obtain ⟨q1, q2, q⟩ := q
    have eo : ∃ a, o = .ref a := by
      cases o <;> first | exact ⟨_, rfl⟩ | exact q1.elim
    refine ⟨o, j, S2, d1.le l2, d2, z2, eo, fun k ek => by subst ek; exact q2, mon_ix _ _ _ _ _ (fun x S3 q v3 H3 l3 z3 d3 => ?_) q⟩
    have l03 := (l1.trans l2).trans l3
    refine ⟨lB.trans l03, env, S3, r0.le l03, z3, he.mono env S3 _ _ (fun y S4 q v4 H4 l4 z4 d4 => ?_) q⟩
    refine ⟨x, y, S4, d3.le l4, d4, z4, hop.mono _ _ _ _ _ (fun z S5 q v5 H5 l5 z5 d5 => ?_) q⟩
    split at q
    · rename_i S6 e6
      have l25 := l3.trans (l4.trans l5)
      exact ⟨o, j, z, S5, S6, d1.le (l2.trans l25), d2.le l25, d5, z5, e6, fun H6 l6 z6 => q _ H6 ((l1.trans l2).trans (l25.trans l6)) (r0.le ((l1.trans l2).trans (l25.trans l6))) z6⟩
    · exact q.elim
  · split at q
    · exact l.nx _ _ q
    · exact q.elim
/-! ### while -/
def mWhile (t : TM) (m : SM) : SM := fun A env S => ∃ W : Nat → Slo → Sto → Prop, (∃ k, W k env S) ∧ ∀ k env S, W k env S → t env S fun b S1 => match b with
  | true => m { A with nx := fun e s => ∃ k', k' < k ∧ W k' e s, ct := fun e s => ∃ k', k' < k ∧ W k' e s, bk := A.nx } env S1
  | false => A.nx env S1
theorem ms_while {c : Expr} {body : List Stmt} {t : TM} (hp : PassesOwn (model X.prog X.w) X.A X.env X.xe) (hc : MT X B c t) (hb : MSs X B body m) : MS X B (.While c body [] pos) (mWhile t m) := by
  refine ⟨ps_imp (ps_while hp hc.pt hb.ps) fun D σ H q => ?_, fun A B env S l q => ?_⟩
  · obtain ⟨lB, env, S, r0, z0, W, ⟨k0, w0⟩, q⟩ := q
    refine ⟨fun k σ' H' => Le H H' ∧ ∃ env S, EnvR X.K H' env σ' ∧ Rp X.K X.prog X.w S H' ∧ W k env S, ⟨k0, Le.refl H, env, S, r0, z0, w0⟩, fun k σ' H' h => ?_⟩
    obtain ⟨l, env, S, r1, z1, w1⟩ := h
    refine ⟨lB.trans l, env, S, r1, z1, hc.mono env S _ _ (fun b S1 q H1 l1 z2 => ?_) (q k env S w1)⟩
    cases b with
    | true =>
      refine ⟨fun σ2 H2 => ∃ k', k' < k ∧ (Le H H2 ∧ ∃ env S, EnvR X.K H2 env σ2 ∧ Rp X.K X.prog X.w S H2 ∧ W k' env S), fun σ2 H2 h => h, ?_⟩
      refine ⟨lB.trans (l.trans l1), env, S1, r1.le l1, z2, hb.mono.go (A := { dnF X.K X.prog X.w H D with nx := fun e s => ∃ k', k' < k ∧ W k' e s, ct := fun e s => ∃ k', k' < k ∧ W k' e s, bk := (dnF X.K X.prog X.w H D).nx }) q ⟨fun e s q σ3 H3 l3 r3 z3 => ?_, dnE_le (l.trans l1), fun e s q σ3 H3 l3 r3 z3 => q σ3 H3 ((l.trans l1).trans l3) r3 z3, fun e s q σ3 H3 l3 r3 z3 => ?_⟩⟩
      · obtain ⟨k', hk, w⟩ := q
        exact ⟨k', hk, (l.trans l1).trans l3, e, s, r3, z3, w⟩
      · obtain ⟨k', hk, w⟩ := q
        exact ⟨k', hk, (l.trans l1).trans l3, e, s, r3, z3, w⟩
    | false => exact q σ' H1 (l.trans l1) (r1.le l1) z2
  · obtain ⟨W, w0, q⟩ := q
    refine ⟨W, w0, fun k env S w => hc.mono env S _ _ (fun b S1 q => ?_) (q k env S w)⟩
    cases b with
    | true => exact hb.mono.go (A := { A with nx := fun e s => ∃ k', k' < k ∧ W k' e s, ct := fun e s => ∃ k', k' < k ∧ W k' e s, bk := A.nx }) (A' := { B with nx := fun e s => ∃ k', k' < k ∧ W k' e s, ct := fun e s => ∃ k', k' < k ∧ W k' e s, bk := B.nx }) q ⟨fun _ _ q => q, l.rt, l.nx, fun _ _ q => q⟩
    | false => exact l.nx _ _ q
/-! ### for -/
/-- what is walked: the items, and what must stay so -/
abbrev IM := Slo → Sto → (List D → (Sto → Prop) → Sto → Prop) → Prop
structure WkD (K : PySem.W.Frag) (P : Program) (w : World) (H1 : Hp) (J : It) (xs : List D) (G : Sto → Prop) : Prop where
  go : ∀ i S H, i < xs.length → Le H1 H → Rp K P w S H → G S → J.go i H
  stop : ∀ S H, Le H1 H → Rp K P w S H → G S → J.stop xs.length H
  yld : ∀ i S H x H', i < xs.length → Le H1 H → Rp K P w S H → G S → J.yld i H x H' → Le H H' ∧ Rp K P w S H' ∧ ∃ d, xs[i]? = some d ∧ DV K H' d x
structure MI (X : Cx) (B : Hp) (tg iter : Expr) (m : IM) : Prop where
  pi : PI X tg iter fun σ H R => Le B H ∧ ∃ env S, EnvR X.K H env σ ∧ Rp X.K X.prog X.w S H ∧ m env S fun xs G S1 => ∀ J H1, Le H H1 → Rp X.K X.prog X.w S1 H1 → WkD X.K X.prog X.w H1 J xs G → R J H1
  mono : ∀ env S (Q Q' : List D → (Sto → Prop) → Sto → Prop), (∀ xs G S, Q xs G S → Q' xs G S) → m env S Q → m env S Q'
theorem pi_imp {tg iter : Expr} {t t' : TI} (h : PI X tg iter t) (i : ∀ σ H R, t' σ H R → t σ H R) : PI X tg iter t' := ⟨fun pins s σ H R I q => h.run pins s σ H R I (i σ H R q)⟩
def forL (g : GM) (m : SM) (G : Sto → Prop) (A : Fin) : List D → Slo → Sto → Prop
  | [], env, S => G S ∧ A.nx env S
  | x :: xs, env, S => G S ∧ g x env S fun env2 S2 => m { A with nx := forL g m G A xs, ct := forL g m G A xs, bk := A.nx } env2 S2
theorem forL_mono {g : GM} {m : SM} {G : Sto → Prop} (hg : ∀ d env S (Q Q' : Slo → Sto → Prop), (∀ e S, Q e S → Q' e S) → g d env S Q → g d env S Q') (hm : MonS m) {A A' : Fin} (l : FinLe A A') : ∀ xs env S, forL g m G A xs env S → forL g m G A' xs env S
  | [], env, S, h => ⟨h.1, l.nx _ _ h.2⟩
  | x :: xs, env, S, h => ⟨h.1, hg _ _ _ _ _ (fun e s q => hm.go (A := { A with nx := forL g m G A xs, ct := forL g m G A xs, bk := A.nx }) (A' := { A' with nx := forL g m G A' xs, ct := forL g m G A' xs, bk := A'.nx }) q ⟨forL_mono hg hm l xs, l.rt, l.nx, forL_mono hg hm l xs⟩) h.2⟩
def mFor (mi : IM) (g : GM) (m : SM) : SM := fun A env S => mi env S fun xs G S1 => forL g m G A xs env S1
theorem forL_G {g : GM} {m : SM} {G : Sto → Prop} {A : Fin} {xs : List D} {env : Slo} {S : Sto} (h : forL g m G A xs env S) : G S := by
  cases xs with
  | nil => exact h.1
  | cons => exact h.1
theorem ms_for {tg iter : Expr} {body : List Stmt} {mi : IM} {g : GM} (hp : PassesOwn (model X.prog X.w) X.A X.env X.xe) (hc : X.calm = true) (hi : MI X B tg iter mi) (hg : MG X B tg g) (hb : MSs X B body m)
    (h : ∀ {wi : TI} {g : TG} {tb : TS}, PI X tg iter wi → PG X tg g → PSs X body tb → PS X (.For tg iter body [] pos) (tFor wi g tb) := by intro wi g tb h1 h2 h3; exact ps_for (by assumption) (by assumption) h1 h2 h3) : MS X B (.For tg iter body [] pos) (mFor mi g m) := by
  refine ⟨ps_imp (h hi.pi hg.pg hb.ps) fun D σ H q => ?_, fun A B env S l q => hi.mono env S _ _ (fun xs G S1 q => forL_mono hg.mono hb.mono l _ _ _ q) q⟩
  obtain ⟨lB, env, S, r0, z0, q⟩ := q
  refine ⟨lB, env, S, r0, z0, hi.mono env S _ _ (fun xs G S1 q J H1 l1 z1 wk => ?_) q⟩
  refine ⟨fun i k σ' H' => i ≤ xs.length ∧ k = xs.length - i ∧ Le H1 H' ∧ ∃ env S, EnvR X.K H' env σ' ∧ Rp X.K X.prog X.w S H' ∧ forL g m G (dnF X.K X.prog X.w H D) (xs.drop i) env S,
    ⟨xs.length, Nat.zero_le _, rfl, Le.refl H1, env, S1, r0.le l1, z1, q⟩, fun i k σ' H' h => ?_⟩
  obtain ⟨hi, rfl, l2, env, S, r2, z2, q⟩ := h
  by_cases hlt : i < xs.length
  · have ed : xs.drop i = xs[i] :: xs.drop (i + 1) := (List.drop_eq_getElem_cons hlt)
    rw [ed] at q
    refine .inr ⟨wk.go i S H' hlt l2 z2 q.1, fun σ3 H3 => Le H1 H3 ∧ ∃ env S, EnvR X.K H3 env σ3 ∧ Rp X.K X.prog X.w S H3 ∧ forL g m G (dnF X.K X.prog X.w H D) (xs.drop (i + 1)) env S,
      fun σ3 H3 h => ⟨xs.length - (i + 1), by omega, hlt, rfl, h⟩, fun x H3 hy => ?_⟩
    obtain ⟨l3, z3, d, ex, dv⟩ := wk.yld i S H' x H3 hlt l2 z2 q.1 hy
    have e' : d = xs[i] := by
      rw [List.getElem?_eq_getElem hlt] at ex
      exact (Option.some.inj ex).symm
    subst e'
    have l13 := l2.trans l3
    refine ⟨lB.trans (l1.trans l13), _, env, S, dv, r2.le l3, z3, hg.mono _ _ _ _ _ (fun e s q σ4 H4 l4 r4 z4 => ?_) q.2⟩
    have l14 := l13.trans l4
    refine ⟨lB.trans (l1.trans l14), e, s, r4, z4, hb.mono.go (A := { dnF X.K X.prog X.w H D with nx := forL g m G (dnF X.K X.prog X.w H D) (xs.drop (i + 1)), ct := forL g m G (dnF X.K X.prog X.w H D) (xs.drop (i + 1)), bk := (dnF X.K X.prog X.w H D).nx }) q ⟨fun e s q σ5 H5 l5 r5 z5 => ⟨l14.trans l5, e, s, r5, z5, q⟩, dnE_le (l1.trans l14), fun e s q σ5 H5 l5 r5 z5 => q σ5 H5 ((l1.trans l14).trans l5) r5 z5, fun e s q σ5 H5 l5 r5 z5 => ⟨l14.trans l5, e, s, r5, z5, q⟩⟩⟩
  · have ei : i = xs.length := by omega
    subst ei
    rw [List.drop_length] at q
    exact .inl ⟨wk.stop S H' l2 z2 q.1, q.2 σ' H' (l1.trans l2) r2 z2⟩
/-! ### what is walked -/
variable {tg : Expr}
/-- a text, sign by sign -/
def sgnD (x : Str) : List D := x.cps.toList.map fun c => .str ⟨#[c]⟩
/-- a tuple, a list, a text -/
def iSeq (m : EM) : IM := fun env S R => m env S fun d S1 => match d with
  | .tp _ xs => R xs (fun _ => True) S1
  | .rol xs => R xs (fun _ => True) S1
  | .str x => R (sgnD x) (fun _ => True) S1
  | .ref a => match S1 a with
    | some (.lst xs) => R xs (fun S => S a = some (.lst xs)) S1
    | _ => False
  | _ => False
theorem mon_iSeq {m : EM} (h : MonE m) : ∀ env S (Q Q' : List D → (Sto → Prop) → Sto → Prop), (∀ xs G S, Q xs G S → Q' xs G S) → iSeq m env S Q → iSeq m env S Q' := fun env S Q Q' i q =>
  h env S _ _ (fun d S1 q => by
    split at q
    · exact i _ _ _ q
    · exact i _ _ _ q
    · exact i _ _ _ q
    · split at q
      · exact i _ _ _ q
      · exact q.elim
    · exact q.elim) q
theorem wk_tup {K : PySem.W.Frag} {P : Program} {w : World} {H1 : Hp} {a : Addr} {vs : List V} {ds : List D} (s : SqT K H1 a vs) (z : DVs K H1 ds vs) : WkD K P w H1 (Itt K a) ds fun _ => True where
  go := fun i S H hi l _ _ => by
    rw [z.length] at hi
    exact (walk_tup (xs := vs)).goes i H hi (SqT_le l s)
  stop := fun S H l _ _ => by
    rw [z.length]
    exact (walk_tup (xs := vs)).stops H (SqT_le l s)
  yld := fun i S H x H' hi l r _ y => by
    rw [z.length] at hi
    obtain ⟨e1, e2⟩ := (walk_tup (xs := vs)).yields i H x H' hi (SqT_le l s) y
    subst e1
    refine ⟨Le.refl _, r, ?_⟩
    rw [← z.length] at hi
    obtain ⟨v, e3, dv⟩ := (z.le l).get (List.getElem?_eq_getElem hi)
    rw [e2] at e3
    cases e3
    exact ⟨_, List.getElem?_eq_getElem hi, dv⟩
theorem wk_rol {K : PySem.W.Frag} {P : Program} {w : World} {H1 : Hp} {a : Addr} {vs : List V} {ds : List D} (s : RoL K H1 a vs) (z : DVs K H1 ds vs) : WkD K P w H1 (Itl K a) ds fun _ => True where
  go := fun i S H hi l _ _ => by
    rw [z.length] at hi
    exact (walk_list (xs := vs)).goes i H hi (s.le l).sq
  stop := fun S H l _ _ => by
    rw [z.length]
    exact (walk_list (xs := vs)).stops H (s.le l).sq
  yld := fun i S H x H' hi l r _ y => by
    rw [z.length] at hi
    obtain ⟨e1, e2⟩ := (walk_list (xs := vs)).yields i H x H' hi (s.le l).sq y
    subst e1
    refine ⟨Le.refl _, r, ?_⟩
    rw [← z.length] at hi
    obtain ⟨v, e3, dv⟩ := (z.le l).get (List.getElem?_eq_getElem hi)
    rw [e2] at e3
    cases e3
    exact ⟨_, List.getElem?_eq_getElem hi, dv⟩
theorem wk_lst {K : PySem.W.Frag} {P : Program} {w : World} {H1 : Hp} {a : Addr} {ds : List D} : WkD K P w H1 (Itl K a) ds fun S => S a = some (.lst ds) where
  go := fun i S H hi l r g => by
    obtain ⟨vs, q, z⟩ := r _ _ g
    rw [z.length] at hi
    exact (walk_list (xs := vs)).goes i H hi (SqL.of q)
  stop := fun S H l r g => by
    obtain ⟨vs, q, z⟩ := r _ _ g
    rw [z.length]
    exact (walk_list (xs := vs)).stops H (SqL.of q)
  yld := fun i S H x H' hi l r g y => by
    obtain ⟨vs, q, z⟩ := r _ _ g
    rw [z.length] at hi
    obtain ⟨e1, e2⟩ := (walk_list (xs := vs)).yields i H x H' hi (SqL.of q) y
    subst e1
    refine ⟨Le.refl _, r, ?_⟩
    rw [← z.length] at hi
    obtain ⟨v, e3, dv⟩ := z.get (List.getElem?_eq_getElem hi)
    rw [e2] at e3
    cases e3
    exact ⟨_, List.getElem?_eq_getElem hi, dv⟩
theorem OkS.sign {x : Str} {c : Nat} (h : OkS x) (hm : c ∈ x.cps) : OkS ⟨#[c]⟩ := by
  refine ⟨?_, (show 1 ≤ sizeLine by decide)⟩
  have h1 : x.cps.all (· < 0x110000) = true := h.1
  rw [Array.all_eq_true_iff_forall_mem] at h1
  have h2 := h1 c hm
  show (#[c] : Array Nat).all (· < 0x110000) = true
  simpa using h2
theorem wk_str {K : PySem.W.Frag} {P : Program} {w : World} {H1 : Hp} {x : Str} (ok : OkS x) : WkD K P w H1 (Its x) (sgnD x) fun _ => True where
  go := fun i S H hi _ _ _ => by
    refine (walk_str (z := x)).goes i H ?_ trivial
    simpa [sgnD] using hi
  stop := fun S H _ _ _ => by
    have e : (sgnD x).length = x.cps.size := by simp [sgnD]
    rw [e]
    exact (walk_str (z := x)).stops H trivial
  yld := fun i S H v H' hi l r _ y => by
    have hi' : i < x.cps.size := by simpa [sgnD] using hi
    obtain ⟨e1, c, e2, e3⟩ := (walk_str (z := x)).yields i H v H' hi' trivial y
    subst e1 e3
    refine ⟨Le.refl _, r, .str ⟨#[c]⟩, ?_, .str _ (ok.sign (Array.mem_of_getElem? e2))⟩
    simp [sgnD, e2]
/-- one of two iterators, told by the value -/
def iEither (K : PySem.W.Frag) (tl : TE) : TI := fun σ H R => tl σ H fun x H1 => (∃ a, x = .ref a ∧ (((∃ xs, SqL K H1 a xs) ∧ R (Itl K a) H1) ∨ ((∃ xs, SqT K H1 a xs) ∧ R (Itt K a) H1))) ∨ ∃ z, x = .str z ∧ R (Its z) H1
theorem pi_either {l : Expr} {tl : TE} (hl : PE X l tl) : PI X tg l (iEither X.K tl) := by
  refine ⟨fun pins s σ H R I h => ?_⟩
  have h1 := hl.run pins s σ H _ I h
  refine thn h1 fun v s1 ⟨x, H1, I1, r1, q0⟩ => ?_
  rcases q0 with ⟨a, ex, q⟩ | ⟨z, ex, q⟩
  rotate_left
  · subst ex
    obtain ⟨t, rfl⟩ := r1
    cases ha : z.cps.all (· < 128)
    · exact wpAny_pyIter_wide ha (pi_one (tk := s1.toks) I1 _ (turn_str _ z t "str_iterator" (.inr rfl)) ⟨_, Heap.get?_push_size _ rfl, rfl, rfl⟩ q)
    · exact wpAny_pyIter_ascii ha (pi_one (tk := s1.toks) I1 _ (turn_str _ z t "str_ascii_iterator" (.inl rfl)) ⟨_, Heap.get?_push_size _ rfl, rfl, rfl⟩ q)
  subst ex
  rcases q with ⟨⟨xs, hq⟩, q⟩ | ⟨⟨xs, hq⟩, q⟩
  · cases r1
    obtain ⟨its, rv, p, hz⟩ := I1.list hq
    refine wpAny_pyIter_list p.isList ?_
    refine ⟨s1.heap.objs.size, [s1.heap.objs.size], _, _, H1, rfl, I1.kept (t' := s1.toks) fun b o e => Heap.get?_push_of_some _ e, turn_list a _, ⟨_, Heap.get?_push_size _ rfl, rfl, rfl⟩, fun b hb => ?_, q⟩
    have e : b = s1.heap.objs.size := by simpa using hb
    subst e
    exact I1.fpOk (Nat.le_refl _) (I1.hok.fresh (Nat.le_refl _))
  · cases r1
    obtain ⟨its, rv, p, hz⟩ := I1.tuple hq
    refine wpAny_pyIter_tuple (show s1.heap.IsTuple a its.toArray from p) ?_
    refine ⟨s1.heap.objs.size, [s1.heap.objs.size], _, _, H1, rfl, I1.kept (t' := s1.toks) fun b o e => Heap.get?_push_of_some _ e, turn_tuple a _, ⟨_, Heap.get?_push_size _ rfl, rfl, rfl⟩, fun b hb => ?_, q⟩
    have e : b = s1.heap.objs.size := by simpa using hb
    subst e
    exact I1.fpOk (Nat.le_refl _) (I1.hok.fresh (Nat.le_refl _))
theorem mi_seq {l : Expr} {m : EM} (h : ME X B l m) : MI X B tg l (iSeq m) := by
  refine ⟨pi_imp (pi_either h.pe) fun σ H R q => ?_, mon_iSeq h.mono⟩
  obtain ⟨lB, env, S, r0, z0, q⟩ := q
  refine ⟨lB, env, S, r0, z0, h.mono env S _ _ (fun d S1 q v H1 l1 z1 d1 => ?_) q⟩
  dsimp only at q
  split at q
  · cases d1 with
    | tup s z => exact .inl ⟨_, rfl, .inr ⟨⟨_, s⟩, q _ H1 l1 z1 (wk_tup s z)⟩⟩
  · cases d1 with
    | rol s z => exact .inl ⟨_, rfl, .inl ⟨⟨_, s.sq⟩, q _ H1 l1 z1 (wk_rol s z)⟩⟩
  · cases d1 with
    | str x ok => exact .inr ⟨_, rfl, q _ H1 l1 z1 (wk_str ok)⟩
  · cases d1
    split at q
    · rename_i xs e0
      obtain ⟨vs, q1, z⟩ := z1 _ _ e0
      exact .inl ⟨_, rfl, .inl ⟨⟨_, SqL.of q1⟩, q _ H1 l1 z1 wk_lst⟩⟩
    · exact q.elim
  · exact q.elim
/-- range(n), range(a, b) -/
def rngD (lo : Int) (n : Nat) : List D := (List.range n).map fun (i : Nat) => .int (lo + (i : Int))
theorem wk_rng {K : PySem.W.Frag} {P : Program} {w : World} {H1 : Hp} {lo : Int} {n : Nat} : WkD K P w H1 (Itr lo n) (rngD lo n) fun _ => True where
  go := fun i S H hi _ _ _ => by
    show i < n
    simpa [rngD] using hi
  stop := fun S H _ _ _ => by
    simp [rngD, Itr]
  yld := fun i S H x H' hi l r _ y => by
    obtain ⟨e1, e2⟩ := y
    subst e1 e2
    have hi' : i < n := by simpa [rngD] using hi
    exact ⟨Le.refl _, r, .int (lo + i), by simp [rngD, hi'], .int _⟩
def iRange1 (m : AM) : IM := fun env S R => m env S fun ds S1 => match ds with
  | [.int j] => -(2 ^ 62) ≤ j ∧ j < 2 ^ 62 ∧ R (rngD 0 j.toNat) (fun _ => True) S1
  | _ => False
def iRange2 (m : AM) : IM := fun env S R => m env S fun ds S1 => match ds with
  | [.int i, .int j] => (-(2 ^ 62) ≤ i ∧ i < 2 ^ 62 ∧ -(2 ^ 62) ≤ j ∧ j < 2 ^ 62) ∧ R (rngD i (j - i).toNat) (fun _ => True) S1
  | _ => False
theorem mi_range1 {a : Expr} {m : AM} {p : Pos} (ha : MA X B [a] m) (h : ∀ {ta : TA}, PA X [a] ta → PI X tg (.Call (.Name "range" p) [a] [] pos) (iRng1 ta)) : MI X B tg (.Call (.Name "range" p) [a] [] pos) (iRange1 m) := by
  refine ⟨pi_imp (h ha.pa) fun σ H R q => ?_, fun env S Q Q' i q => ha.mono env S _ _ (fun d S1 q => ?_) q⟩
  · obtain ⟨lB, env, S, r0, z0, q⟩ := q
    refine ⟨lB, env, S, r0, z0, ha.mono env S _ _ (fun ds S1 q vs H1 l1 z1 d1 => ?_) q⟩
    split at q
    · obtain ⟨v, rfl, dv⟩ := dvs1 d1
      cases dv
      exact ⟨_, rfl, q.1, q.2.1, q.2.2 _ H1 l1 z1 wk_rng⟩
    · exact q.elim
  · split at q
    · exact ⟨q.1, q.2.1, i _ _ _ q.2.2⟩
    · exact q.elim
theorem mi_range2 {a b : Expr} {m : AM} {p : Pos} (ha : MA X B [a, b] m) (h : ∀ {ta : TA}, PA X [a, b] ta → PI X tg (.Call (.Name "range" p) [a, b] [] pos) (iRng2 ta)) : MI X B tg (.Call (.Name "range" p) [a, b] [] pos) (iRange2 m) := by
  refine ⟨pi_imp (h ha.pa) fun σ H R q => ?_, fun env S Q Q' i q => ha.mono env S _ _ (fun d S1 q => ?_) q⟩
  · obtain ⟨lB, env, S, r0, z0, q⟩ := q
    refine ⟨lB, env, S, r0, z0, ha.mono env S _ _ (fun ds S1 q vs H1 l1 z1 d1 => ?_) q⟩
    split at q
    · obtain ⟨v, u, rfl, dv, dv'⟩ := dvs2 d1
      cases dv; cases dv'
      exact ⟨_, _, rfl, q.1, q.2 _ H1 l1 z1 wk_rng⟩
    · exact q.elim
  · split at q
    · exact ⟨q.1, i _ _ _ q.2⟩
    · exact q.elim
end
end DL

set_option Elab.async false
set_option linter.all false
set_option maxRecDepth 100000
set_option maxHeartbeats 4000000
/-! DL6: fields, calls, methods, new instances, defs. -/
namespace DL
open PySem L2
/-! ### promises -/
abbrev XQ := Value → List (Str × D) → Sto → Prop
abbrev SpD := List D → Sto → DQ → XQ → Prop
def MonSp (sp : SpD) : Prop := ∀ ds S (Q Q' : DQ) (E E' : XQ), (∀ d S, Q d S → Q' d S) → (∀ c f S, E c f S → E' c f S) → sp ds S Q E → sp ds S Q' E'
def spOf (K : PySem.W.Frag) (P : Program) (w : World) (sp : SpD) : Sp := fun vs H Q E => ∃ ds S, DVs K H ds vs ∧ Rp K P w S H ∧ sp ds S (dnE K P w H Q) fun c fs S' => ∀ dd H', Le H H' → Rp K P w S' H' → XdR K H' dd fs → E c dd H'
section
variable {X : Cx} {B : Hp} {W : XW}
/-- what is raised is wished for -/
abbrev Tk (X : Cx) (B : Hp) (W : XW) : Prop := Takes X (upW X.K X.prog X.w B W)
def WN : XW := fun _ _ _ _ => False
theorem tk_none : Tk X B WN := fun u s' x => by
  obtain ⟨_, _, _, _, _, _, _, _, _, _, _, _, _, _, _, _, z⟩ := x
  obtain ⟨_, _, _, _, _, _, _, z⟩ := z
  exact z.elim
def mCall (sp : SpD) (W : XW) (m : AM) : EM := fun env S Q => m env S fun ds S1 => sp ds S1 Q fun c fs S' => W c fs env S'
theorem mon_call {sp : SpD} {m : AM} (hs : MonSp sp) (hm : MonA m) : MonE (mCall sp W m) := fun env S Q Q' i q => hm env S _ _ (fun ds S1 q => hs _ _ _ _ _ _ i (fun _ _ _ h => h) q) q
theorem sp_dn {K : PySem.W.Frag} {P : Program} {w : World} {sp : SpD} (hs : MonSp sp) {env : Slo} {σ : L2.St} {H H1 : Hp} {S1 : Sto} {ds : List D} {vs : List V} {Q : VK} (lB : Le B H) (r0 : EnvR K H env σ) (l1 : Le H H1) (z1 : Rp K P w S1 H1) (d1 : DVs K H1 ds vs)
    (q : sp ds S1 (dnE K P w H Q) fun c fs S' => W c fs env S') : spOf K P w sp vs H1 Q (WE (upW K P w B W) σ) :=
  ⟨ds, S1, d1, z1, hs _ _ _ _ _ _ (dnE_le l1) (fun c fs S' hW dd H' l2 z2 x => ⟨lB.trans (l1.trans l2), env, S', fs, r0.le (l1.trans l2), z2, x, hW⟩) q⟩
variable {k : Nat} {f C : Addr} {fd : FuncData} {ps : List Str} {sp : SpD} {x m : Str} {p pos apos : Pos} {e o : Expr} {es : List Expr} {ma : AM} {mo : EM}
theorem up_call {m : AM} (hs : MonSp sp) (hm : MonA m) {σ : L2.St} {H : Hp} {Q : VK} {K : PySem.W.Frag} {P : Program} {w : World} (q : up K P w B (mCall sp W m) σ H Q) : tCallS (spOf K P w sp) (WE (upW K P w B W)) (upA K P w B m) σ H Q := by
  obtain ⟨lB, env, S, r0, z0, q⟩ := q
  refine ⟨lB, env, S, r0, z0, hm env S _ _ (fun ds S1 q vs H1 l1 z1 d1 => ?_) q⟩
  exact sp_dn hs lB r0 l1 z1 d1 q
theorem me_call (F : FnOk X.prog X.w X.K X.mg X.base (L2.CX X.prog X.w) k f fd ps (spOf X.K X.prog X.w sp)) (hs : MonSp sp) (hr : Room k X.A) (tk : Tk X B W) (hg : Gl X x) (hm : X.mg x = some (.ref f)) (hk : PySem.W.keepIn X.K (.ref f) = true) (hb : Binds X.K fd ps [])
    (ha : MA X B (e :: es) ma) (hdb : (x == ("__debug__" : Str)) = false := by decide) (he : starEach (e :: es) X.env = (false, eval e X.env) :: starEach es X.env := by rfl) (hpl : (backTo pos (starEach es X.env)).any (·.1) = false := by rfl) :
    ME X B (.Call (.Name x p) (e :: es) [] pos) (mCall sp W ma) :=
  ⟨pe_imp (pe_callS F hr hg hm hk hb (fun σ => passAt tk σ) ha.pa hdb he hpl) fun _ _ _ q => up_call hs ha.mono q, mon_call hs ha.mono⟩
theorem me_call0 (F : FnOk X.prog X.w X.K X.mg X.base (L2.CX X.prog X.w) k f fd ps (spOf X.K X.prog X.w sp)) (hs : MonSp sp) (hr : Room k X.A) (tk : Tk X B W) (hg : Gl X x) (hm : X.mg x = some (.ref f)) (hk : PySem.W.keepIn X.K (.ref f) = true) (hb : Binds X.K fd ps [])
    (hdb : (x == ("__debug__" : Str)) = false := by decide) : ME X B (.Call (.Name x p) [] [] pos) (mCall sp W mNil) := by
  refine ⟨⟨fun pins s σ H Q I h => ?_⟩, mon_call hs fun env S Q Q' i q => i _ _ q⟩
  obtain ⟨lB, env, S, r0, z0, q⟩ := h
  refine wpAny_Call_Name_kw (ld_glob I hg hm ?_ hdb)
  refine PySem.W.callWith_K0 I.kIn hk ?_
  exact run_fnS (us := []) F hr hb (passAt tk σ) I .nil (sp_dn hs lB r0 (Le.refl H) z0 .nil q)
/-! ### methods -/
def tMethS (C : Addr) (m : Str) (sp : Sp) (E : L2.St → XK) (ta : TE) (t : TA) : TE := fun σ H Q => ta σ H fun x H1 => ∃ a dx fs, x = .ref a ∧ H1 a = some (.ins C dx fs) ∧ fs.lookup m = none ∧ t σ H1 fun vs H2 => sp (x :: vs) H2 Q (E σ)
theorem pe_methS {CX : CXT} {sp : Sp} {E : L2.St → XK} {ta : TE} {t : TA} {pl : Sem Bool} (he : PE X o ta) (c : Cls X.K C) (hm : Meth X.K C m f) (F : FnOk X.prog X.w X.K X.mg X.base CX k f fd ps sp) (hr : Room k X.A) (hb : Binds X.K fd ps []) (hx : ∀ σ, PassesAt CX X σ (E σ)) (ha : PA X (e :: es) t)
    (hst : starEach (e :: es) X.env = (false, eval e X.env) :: starEach es X.env := by rfl) (hpl : (backTo pos (starEach es X.env)).any (·.1) = false := by rfl)
    (ht : eval (.Call (.Attribute o m apos) (e :: es) [] pos) X.env = (do
      let ov ← eval o X.env
      standAt apos.atName
      let (f, first) ← holding [ov] (getMethod ov m pl)
      callWith pos f first (backTo pos (starEach (e :: es) X.env)) (backToKw pos (keywordEach [] X.env))) := by rfl) :
    PE X (.Call (.Attribute o m apos) (e :: es) [] pos) (tMethS C m sp E ta t) := by
  refine ⟨fun pins s σ H Q I h => ?_⟩
  refine PySem.W.methodCall_KW (pl := pl) (thn (he.run pins s σ H _ I h) fun u s1 ⟨x, H1, I1, rx, a, dx, fs, ex, ea, l, q⟩ => ?_) ht
  subst ex
  obtain rfl : u = Value.ref a := rx
  refine getmeth_ok I1 ea c hm l ?_
  refine PySem.W.callWith_K (first := [.ref a]) (h₀ := X.base) I.ok.mod.kin hm.kp (thn (ha.run pos pins s1 σ H1 _ I1 q) fun us s2 ⟨vs, H2, I2, r, q2⟩ => ⟨I2.kIn, ?_⟩) hst hpl
  exact run_fnS (us := .ref a :: us) (vs := .ref a :: vs) F hr hb (hx σ) I2 (.cons rfl r) q2
theorem pe_methS0 {CX : CXT} {sp : Sp} {E : L2.St → XK} {ta : TE} {pl : Sem Bool} (he : PE X o ta) (c : Cls X.K C) (hm : Meth X.K C m f) (F : FnOk X.prog X.w X.K X.mg X.base CX k f fd ps sp) (hr : Room k X.A) (hb : Binds X.K fd ps []) (hx : ∀ σ, PassesAt CX X σ (E σ))
    (ht : eval (.Call (.Attribute o m apos) [] [] pos) X.env = (do
      let ov ← eval o X.env
      standAt apos.atName
      let (f, first) ← holding [ov] (getMethod ov m pl)
      callWith pos f first (backTo pos (starEach [] X.env)) (backToKw pos (keywordEach [] X.env))) := by rfl) :
    PE X (.Call (.Attribute o m apos) [] [] pos) (tMethS C m sp E ta tNil) := by
  refine ⟨fun pins s σ H Q I h => ?_⟩
  refine PySem.W.methodCall_KW (pl := pl) (thn (he.run pins s σ H _ I h) fun u s1 ⟨x, H1, I1, rx, a, dx, fs, ex, ea, l, q⟩ => ?_) ht
  subst ex
  obtain rfl : u = Value.ref a := rx
  refine getmeth_ok I1 ea c hm l ?_
  refine PySem.W.callWith_K0 (first := [.ref a]) I1.kIn hm.kp ?_
  exact run_fnS (us := [.ref a]) (vs := [.ref a]) F hr hb (hx σ) I1 (.cons rfl .nil) q
/-- o.m(..), o an instance of the class at C -/
def mMeth (C : Addr) (m : Str) (sp : SpD) (W : XW) (mo : EM) (ma : AM) : EM := fun env S Q => mo env S fun d S1 => match d with
  | .ref a => match S1 a with
    | some (.ins C' fs) => C' = C ∧ fs.lookup m = none ∧ ma env S1 fun ds S2 => sp (.ref a :: ds) S2 Q fun c fs S' => W c fs env S'
    | _ => False
  | _ => False
theorem mon_meth (hs : MonSp sp) (ho : MonE mo) (hm : MonA ma) : MonE (mMeth C m sp W mo ma) := fun env S Q Q' i q => ho env S _ _ (fun d S1 q => by
  split at q
  · split at q
    · exact ⟨q.1, q.2.1, hm env S1 _ _ (fun ds S2 q => hs _ _ _ _ _ _ i (fun _ _ _ h => h) q) q.2.2⟩
    · exact q.elim
  · exact q.elim) q
theorem KVs.lookup {K : PySem.W.Frag} {H : Hp} {ds : List (Str × D)} {vs : List (Str × V)} (h : KVs K H ds vs) (f : Str) : (∀ d, ds.lookup f = some d → ∃ v, vs.lookup f = some v ∧ DV K H d v) ∧ (ds.lookup f = none → vs.lookup f = none) := by
  induction h with
  | nil => exact ⟨(fun d e => nomatch e), fun _ => rfl⟩
  | @cons k' d v ds vs h1 h2 ih =>
    rw [List.lookup_cons, List.lookup_cons]
    cases hk : f == k' with
    | true => exact ⟨fun d' e => by cases e; exact ⟨v, rfl, h1⟩, (fun e => nomatch e)⟩
    | false => exact ih
theorem up_meth (hs : MonSp sp) (ho : MonE mo) (hm : MonA ma) {σ : L2.St} {H : Hp} {Q : VK} {K : PySem.W.Frag} {P : Program} {w : World} (q : up K P w B (mMeth C m sp W mo ma) σ H Q) : tMethS C m (spOf K P w sp) (WE (upW K P w B W)) (up K P w B mo) (upA K P w B ma) σ H Q := by
  obtain ⟨lB, env, S, r0, z0, q⟩ := q
  refine ⟨lB, env, S, r0, z0, ho env S _ _ (fun d S1 q v H1 l1 z1 d1 => ?_) q⟩
  split at q
  · cases d1
    split at q
    · rename_i _ C' fs e0
      obtain ⟨rfl, q1, q⟩ := q
      obtain ⟨dx, vs, e1, kv⟩ := z1 _ _ e0
      refine ⟨_, dx, vs, rfl, e1, (kv.lookup m).2 q1, lB.trans l1, env, S1, r0.le l1, z1, hm env S1 _ _ (fun ds S2 q us H2 l2 z2 d2 => ?_) q⟩
      exact sp_dn hs lB r0 (l1.trans l2) z2 (.cons (.ref _) d2) q
    · exact q.elim
  · exact q.elim
theorem me_meth {pl : Sem Bool} (ho : ME X B o mo) (c : Cls X.K C) (hm : Meth X.K C m f) (F : FnOk X.prog X.w X.K X.mg X.base (L2.CX X.prog X.w) k f fd ps (spOf X.K X.prog X.w sp)) (hs : MonSp sp) (hr : Room k X.A) (tk : Tk X B W) (hb : Binds X.K fd ps []) (ha : MA X B (e :: es) ma)
    (hst : starEach (e :: es) X.env = (false, eval e X.env) :: starEach es X.env := by rfl) (hpl : (backTo pos (starEach es X.env)).any (·.1) = false := by rfl)
    (ht : eval (.Call (.Attribute o m apos) (e :: es) [] pos) X.env = (do
      let ov ← eval o X.env
      standAt apos.atName
      let (f, first) ← holding [ov] (getMethod ov m pl)
      callWith pos f first (backTo pos (starEach (e :: es) X.env)) (backToKw pos (keywordEach [] X.env))) := by rfl) : ME X B (.Call (.Attribute o m apos) (e :: es) [] pos) (mMeth C m sp W mo ma) :=
  ⟨pe_imp (pe_methS ho.pe c hm F hr hb (fun σ => passAt tk σ) ha.pa hst hpl ht) fun _ _ _ q => up_meth hs ho.mono ha.mono q, mon_meth hs ho.mono ha.mono⟩
theorem me_meth0 {pl : Sem Bool} (ho : ME X B o mo) (c : Cls X.K C) (hm : Meth X.K C m f) (F : FnOk X.prog X.w X.K X.mg X.base (L2.CX X.prog X.w) k f fd ps (spOf X.K X.prog X.w sp)) (hs : MonSp sp) (hr : Room k X.A) (tk : Tk X B W) (hb : Binds X.K fd ps [])
    (ht : eval (.Call (.Attribute o m apos) [] [] pos) X.env = (do
      let ov ← eval o X.env
      standAt apos.atName
      let (f, first) ← holding [ov] (getMethod ov m pl)
      callWith pos f first (backTo pos (starEach [] X.env)) (backToKw pos (keywordEach [] X.env))) := by rfl) : ME X B (.Call (.Attribute o m apos) [] [] pos) (mMeth C m sp W mo mNil) := by
  refine ⟨pe_imp (pe_methS0 ho.pe c hm F hr hb (fun σ => passAt tk σ) ht) fun σ H Q q => ?_, mon_meth hs ho.mono fun env S Q Q' i q => i _ _ q⟩
  obtain ⟨lB, env, S, r0, z0, q⟩ := q
  refine ⟨lB, env, S, r0, z0, ho.mono env S _ _ (fun d S1 q v H1 l1 z1 d1 => ?_) q⟩
  split at q
  · cases d1
    split at q
    · rename_i _ C' fs e0
      obtain ⟨rfl, q1, q⟩ := q
      obtain ⟨dx, vs, e1, kv⟩ := z1 _ _ e0
      exact ⟨_, dx, vs, rfl, e1, (kv.lookup m).2 q1, sp_dn hs lB r0 l1 z1 (.cons (.ref _) .nil) q⟩
    · exact q.elim
  · exact q.elim
/-! ### fields -/
def FOk (K : PySem.W.Frag) (C : Addr) (f : Str) : Prop := Cls K C ∧ NoAttr K C f
def mFld (K : PySem.W.Frag) (m : EM) (f : Str) : EM := fun env S Q => m env S fun d S1 => match d with
  | .ref a => match S1 a with
    | some (.ins C fs) => match fs.lookup f with
      | some v => FOk K C f ∧ Q v S1
      | none => False
    | _ => False
  | _ => False
theorem me_fld {f : Str} (h : ME X B e mo) (hb : attributeBase e f X.env (eval e X.env) = eval e X.env := by rfl) : ME X B (.Attribute e f pos) (mFld X.K mo f) := by
  refine ⟨pe_imp (pe_fld h.pe hb) fun σ H Q q => ?_, fun env S Q Q' i q => h.mono env S _ _ (fun d S1 q => ?_) q⟩
  · obtain ⟨lB, env, S, r0, z0, q⟩ := q
    refine ⟨lB, env, S, r0, z0, h.mono env S _ _ (fun d S1 q v H1 l1 z1 d1 => ?_) q⟩
    split at q
    · cases d1
      split at q
      · rename_i _ C fs e0
        split at q
        · rename_i x0 ex
          obtain ⟨dx, vs, e1, kv⟩ := z1 _ _ e0
          obtain ⟨u, eu, du⟩ := (kv.lookup f).1 _ ex
          exact ⟨_, C, dx, vs, u, rfl, e1, q.1.1, q.1.2, eu, q.2 u H1 l1 z1 du⟩
        · exact q.elim
      · exact q.elim
    · exact q.elim
  · split at q
    · split at q
      · split at q
        · exact ⟨q.1, i _ _ q.2⟩
        · exact q.elim
      · exact q.elim
    · exact q.elim
def putFd (f : Str) (v : D) : List (Str × D) → List (Str × D)
  | [] => [(f, v)]
  | (g, u) :: r => if g = f then (g, v) :: r else (g, u) :: putFd f v r
end
end DL

set_option Elab.async false
set_option linter.all false
set_option maxRecDepth 100000
set_option maxHeartbeats 4000000
/-! DL7: defs, calls in short, field stores, new instances, what is never reached. -/
namespace DL
open PySem PySem.Spec PyProof.Rows L2
/-! ### defs -/
/-- a body as a promise; weakened by its making -/
def spB (n m : Nat) (b : XW → SM) : SpD := fun ds S Q E => ∃ (Q0 : DQ) (E0 : XQ), (∀ d S, Q0 d S → Q d S) ∧ (∀ c f S, E0 c f S → E c f S) ∧ ds.length = n ∧
  b (fun c fs _ S' => E0 c fs S') { nx := fun _ S' => Q0 .non S', rt := Q0 } (ds.map some ++ List.replicate m none) S
theorem mon_spB {n m : Nat} {b : XW → SM} : MonSp (spB n m b) := fun ds S Q Q' E E' i j h => by
  obtain ⟨Q0, E0, h1, h2, h3, h4⟩ := h
  exact ⟨Q0, E0, fun d S q => i _ _ (h1 d S q), fun c f S q => j _ _ _ (h2 c f S q), h3, h4⟩
theorem spB_mk {n m : Nat} {b : XW → SM} {ds : List D} {S : Sto} {Q : DQ} {E : XQ} (hl : ds.length = n) (h : b (fun c fs _ S' => E c fs S') { nx := fun _ S' => Q .non S', rt := Q } (ds.map some ++ List.replicate m none) S) : spB n m b ds S Q E :=
  ⟨Q, E, fun _ _ q => q, fun _ _ _ q => q, hl, h⟩
/-- a def that keeps its promise -/
structure Fd (P : Program) (w : World) (K : PySem.W.Frag) (mg : Str → Option Value) (base : Heap) (k : Nat) (f : Addr) (sp : SpD) : Prop where
  ex : ∃ fd ps, FnOk P w K mg base (L2.CX P w) k f fd ps (spOf K P w sp) ∧ Binds K fd ps []
  kp : PySem.W.keepIn K (.ref f) = true
  mono : MonSp sp
section
variable {P : Program} {w : World} {K : PySem.W.Frag} {mg : Str → Option Value} {base : Heap}
theorem Fd.more {j k : Nat} {f : Addr} {sp : SpD} (F : Fd P w K mg base j f sp) (h : j ≤ k) : Fd P w K mg base k f sp := by
  obtain ⟨fd, ps, F1, b⟩ := F.ex
  exact ⟨⟨fd, ps, F1.mono h, b⟩, F.kp, F.mono⟩
theorem env_start {H : Hp} {ds : List D} {vs : List V} {N : List Str} {m : Nat} (h : DVs K H ds vs) (hN : N.length = ds.length + m) : EnvR K H (ds.map some ++ List.replicate m none) (L2.start N vs) := by
  have hl := h.length
  refine ⟨by simp [L2.start, hl]; omega, fun i d e => ?_⟩
  have hi : i < ds.length := by
    by_cases hi : i < ds.length
    · exact hi
    · rw [List.getElem?_append_right (by simpa using hi), List.getElem?_replicate] at e
      split at e <;> cases e
  rw [List.getElem?_append_left (by simpa using hi), List.getElem?_map] at e
  cases q : ds[i]? with
  | none => rw [q] at e; cases e
  | some x =>
    rw [q] at e
    cases e
    obtain ⟨v, e1, e2⟩ := h.get q
    refine ⟨v, ?_, e2⟩
    unfold L2.start
    rw [List.getElem?_append_left (by rw [hl] at hi; simpa using hi), List.getElem?_map, e1]
    rfl
theorem ok_def {x qual : Str} {params : Arguments} {body : List Stmt} {scope : Scope} {dvs : List V} {kws : List (Str × V)} {f : Addr} {fd : FuncData} {N ps : List Str} {k n m : Nat} {b : XW → SM} (F : FunD K x qual params body scope dvs kws f fd) (S : FnScope N ps scope) (bi : Binds K fd ps [])
    (hn : ps.length = n) (hN : N.length = n + m)
    (hb : ∀ (cdv : Value) (A : Around) (outer : List Env) (s : Shared) (H : Hp) (E : XK), Room k (A.deeper (envOfC qual scope s.heap.objs.size f cdv)) → ∀ (X : Cx) (eX : X = cxOf (L2.CX P w) P w K mg base N qual scope f cdv A outer s H E) (W : XW), Tk X H W → PassesOwn (model X.prog X.w) X.A X.env X.xe → MSs X H body (b W)) : Fd P w K mg base (k + 1) f (spB n m b) := by
  refine ⟨⟨fd, ps, F.ok S (fun vs H Q E h => ?_) (fun cdv A outer s H vs Q E hr h => ?_), bi⟩, F.kp, mon_spB⟩
  · obtain ⟨ds, S0, h1, h2, Q0, E0, _, _, h3, _⟩ := h
    rw [← h1.length, h3, hn]
  · obtain ⟨ds, S0, h1, h2, Q0, E0, i1, i2, h3, h4⟩ := h
    have tk0 : Takes (cxOf (L2.CX P w) P w K mg base N qual scope f cdv A outer s H E) (fun cls d _ H => E cls d H) := takes_of rfl rfl rfl rfl
    have tk : Tk (cxOf (L2.CX P w) P w K mg base N qual scope f cdv A outer s H E) H (fun c fs _ S' => E0 c fs S') := tk0.imp fun c d σ H' z => by
      obtain ⟨l, env, S', fs, _, z1, z2, z3⟩ := z
      exact i2 _ _ _ z3 d H' l z1 z2
    have Z := hb cdv A outer s H E hr _ rfl _ tk (passes_of rfl)
    refine ⟨_, Z.ps, Le.refl H, _, S0, env_start h1 (by rw [h3]; exact hN), h2, Z.mono.go h4 ⟨fun e S' q σ H' l r z => ?_, fun d S' q v H' l z dv => i1 _ _ q v H' l z dv, fun _ _ q => q.elim, fun _ _ q => q.elim⟩⟩
    exact i1 _ _ q _ H' l z .non
end
section
variable {X : Cx} {B : Hp} {W : XW} {k : Nat} {f C : Addr} {sp : SpD} {x m : Str} {p pos apos : Pos} {e o : Expr} {es : List Expr} {ma : AM} {mo me : EM}
theorem me_fn (F : Fd X.prog X.w X.K X.mg X.base k f sp) (hr : Room k X.A) (tk : Tk X B W) (hm : X.mg x = some (.ref f)) (ha : MA X B (e :: es) ma) (hg : Gl X x := by rfl)
    (hdb : (x == ("__debug__" : Str)) = false := by decide) (he : starEach (e :: es) X.env = (false, eval e X.env) :: starEach es X.env := by rfl) (hpl : (backTo pos (starEach es X.env)).any (·.1) = false := by rfl) :
    ME X B (.Call (.Name x p) (e :: es) [] pos) (mCall sp W ma) := by
  obtain ⟨fd, ps, F1, b⟩ := F.ex
  exact me_call F1 F.mono hr tk hg hm F.kp b ha hdb he hpl
theorem me_fn0 (F : Fd X.prog X.w X.K X.mg X.base k f sp) (hr : Room k X.A) (tk : Tk X B W) (hm : X.mg x = some (.ref f)) (hg : Gl X x := by rfl)
    (hdb : (x == ("__debug__" : Str)) = false := by decide) : ME X B (.Call (.Name x p) [] [] pos) (mCall sp W mNil) := by
  obtain ⟨fd, ps, F1, b⟩ := F.ex
  exact me_call0 F1 F.mono hr tk hg hm F.kp b hdb
theorem me_mt {pl : Sem Bool} (ho : ME X B o mo) (c : Cls X.K C) (hm : Meth X.K C m f) (F : Fd X.prog X.w X.K X.mg X.base k f sp) (hr : Room k X.A) (tk : Tk X B W) (ha : MA X B (e :: es) ma)
    (hst : starEach (e :: es) X.env = (false, eval e X.env) :: starEach es X.env := by rfl) (hpl : (backTo pos (starEach es X.env)).any (·.1) = false := by rfl)
    (ht : eval (.Call (.Attribute o m apos) (e :: es) [] pos) X.env = (do
      let ov ← eval o X.env
      standAt apos.atName
      let (f, first) ← holding [ov] (getMethod ov m pl)
      callWith pos f first (backTo pos (starEach (e :: es) X.env)) (backToKw pos (keywordEach [] X.env))) := by rfl) : ME X B (.Call (.Attribute o m apos) (e :: es) [] pos) (mMeth C m sp W mo ma) := by
  obtain ⟨fd, ps, F1, b⟩ := F.ex
  exact me_meth ho c hm F1 F.mono hr tk b ha hst hpl ht
theorem me_mt0 {pl : Sem Bool} (ho : ME X B o mo) (c : Cls X.K C) (hm : Meth X.K C m f) (F : Fd X.prog X.w X.K X.mg X.base k f sp) (hr : Room k X.A) (tk : Tk X B W)
    (ht : eval (.Call (.Attribute o m apos) [] [] pos) X.env = (do
      let ov ← eval o X.env
      standAt apos.atName
      let (f, first) ← holding [ov] (getMethod ov m pl)
      callWith pos f first (backTo pos (starEach [] X.env)) (backToKw pos (keywordEach [] X.env))) := by rfl) : ME X B (.Call (.Attribute o m apos) [] [] pos) (mMeth C m sp W mo mNil) := by
  obtain ⟨fd, ps, F1, b⟩ := F.ex
  exact me_meth0 ho c hm F1 F.mono hr tk b ht
/-! ### what is never reached -/
def mNo : SM := fun _ _ _ => False
theorem ms_no {st : Stmt} : MS X B st mNo := ⟨⟨fun pins s σ H D I h => by
  obtain ⟨_, _, _, _, _, q⟩ := h
  exact q.elim⟩, fun _ _ _ _ _ h => h⟩
theorem mss_no {st : List Stmt} : MSs X B st mNo := ⟨⟨fun pins s σ H D I h => by
  obtain ⟨_, _, _, _, _, q⟩ := h
  exact q.elim⟩, fun _ _ _ _ _ h => h⟩
def eNo : EM := fun _ _ _ => False
theorem me_no : ME X B e eNo := ⟨⟨fun pins s σ H D I h => by
  obtain ⟨_, _, _, _, _, q⟩ := h
  exact q.elim⟩, fun _ _ _ _ _ h => h⟩
/-! ### field stores -/
theorem KVs.putF {K : PySem.W.Frag} {H : Hp} {ds : List (Str × D)} {vs : List (Str × V)} {f : Str} {d : D} {v : V} (h : KVs K H ds vs) (hd : DV K H d v) : KVs K H (putFd f d ds) (L2.putF f v vs) := by
  induction h with
  | nil => exact .cons hd .nil
  | @cons k' d' v' ds vs h1 h2 ih =>
    unfold putFd L2.putF
    by_cases q : k' = f
    · simp only [q, if_true]
      exact .cons hd h2
    · simp only [q, if_false]
      exact .cons h1 ih
def mSetF (K : PySem.W.Frag) (mo me : EM) (f : Str) : SM := fun A env S => me env S fun y S1 => mo env S1 fun d S2 => match d with
  | .ref a => match S2 a with
    | some (.ins C fs) => FOk K C f ∧ fs.length < 1000 ∧ A.nx env (put S2 a (.ins C (putFd f y fs)))
    | _ => False
  | _ => False
theorem ms_fld {f : Str} {pos' : Pos} (ho : ME X B o mo) (he : ME X B e me) (hs : swapsWith e (some (.Attribute o f pos')) pos.line X.env = pure false := by rfl) : MS X B (.Assign [.Attribute o f pos'] e pos) (mSetF X.K mo me f) := by
  refine ⟨ps_imp (ps_fld ho.pe he.pe hs) fun D σ H q => ?_, fun A B env S l q => he.mono env S _ _ (fun y S1 q => ho.mono env S1 _ _ (fun d S2 q => ?_) q) q⟩
  · obtain ⟨lB, env, S, r0, z0, q⟩ := q
    refine ⟨lB, env, S, r0, z0, he.mono env S _ _ (fun y S1 q v H1 l1 z1 d1 => ?_) q⟩
    refine ⟨lB.trans l1, env, S1, r0.le l1, z1, ho.mono env S1 _ _ (fun d S2 q u H2 l2 z2 d2 => ?_) q⟩
    split at q
    · cases d2
      split at q
      · rename_i a _ C fs e0
        obtain ⟨dx, vs, e1, kv⟩ := z2 _ _ e0
        have hmut : Mut (H2 a) := by rw [e1]; exact trivial
        refine ⟨_, C, dx, vs, rfl, e1, q.1.1, q.1.2, by rw [← kv.length]; exact q.2.1, ?_⟩
        have l3 := Le.mut (o := .ins C dx (L2.putF f v vs)) hmut
        have l123 := (l1.trans l2).trans l3
        exact q.2.2 σ _ l123 (r0.le l123) (z2.wr hmut ⟨dx, _, upd_same, (kv.putF (d1.le l2)).le l3⟩)
      · exact q.elim
    · exact q.elim
  · split at q
    · split at q
      · exact ⟨q.1, q.2.1, l.nx _ _ q.2.2⟩
      · exact q.elim
    · exact q.elim
end
end DL

set_option Elab.async false
set_option linter.all false
set_option maxRecDepth 100000
set_option maxHeartbeats 4000000
/-! DL8: comprehensions. -/
namespace DL
open PySem PySem.Spec PyProof.Rows L2
/-! ### slots wiped -/
def wipeD (env : Slo) : List Nat → Slo
  | [] => env
  | v :: vs => (wipeD env vs).set v none
theorem EnvR.wipe {K : PySem.W.Frag} {H : Hp} {env : Slo} {σ : L2.St} (r : EnvR K H env σ) : ∀ vs : List Nat, EnvR K H (wipeD env vs) (L2.wipe σ vs)
  | [] => r
  | v :: vs => (EnvR.wipe r vs).unset v
theorem wipe_set1 {σ : L2.St} {i : Nat} {a : Option V} : ∀ vs : List Nat, (L2.wipe (σ.set i a) vs).set i none = (L2.wipe σ vs).set i none
  | [] => by simp [L2.wipe]
  | v :: r => by
    unfold L2.wipe
    by_cases h : v = i
    · subst h
      rw [List.set_set, List.set_set]
      exact wipe_set1 r
    · rw [List.set_comm _ _ h, List.set_comm _ _ h, wipe_set1 r]
theorem wipe_set {σ : L2.St} {i : Nat} {a : Option V} : ∀ {vs : List Nat}, i ∈ vs → L2.wipe (σ.set i a) vs = L2.wipe σ vs
  | v :: r, h => by
    rcases List.mem_cons.mp h with e | h
    · subst e
      exact wipe_set1 r
    · show (L2.wipe (σ.set i a) r).set v none = _
      rw [wipe_set h]
      rfl
theorem wipe_in {σ : L2.St} {j : Nat} (hj : j < σ.length) : ∀ {vs : List Nat}, j ∈ vs → (L2.wipe σ vs)[j]? = some none
  | v :: r, h => by
    unfold L2.wipe
    by_cases e : v = j
    · subst e
      exact List.getElem?_set_self (by rw [L2.wipe_length]; exact hj)
    · rw [List.getElem?_set_ne e]
      rcases List.mem_cons.mp h with q | h
      · exact absurd q.symm e
      · exact wipe_in hj h
theorem wipe_wipe {σ : L2.St} {vs : List Nat} : L2.wipe (L2.wipe σ vs) vs = L2.wipe σ vs := by
  apply List.ext_getElem?
  intro j
  by_cases hj : j < σ.length
  · by_cases h : j ∈ vs
    · rw [wipe_in (by rw [L2.wipe_length]; exact hj) h, wipe_in hj h]
    · rw [L2.wipe_out h]
  · rw [List.getElem?_eq_none (by rw [L2.wipe_length, L2.wipe_length]; omega), List.getElem?_eq_none (by rw [L2.wipe_length]; omega)]
/-- a block's target: what it does to values, what to data -/
def TgD (K : PySem.W.Frag) (vs : List Nat) (t : TG) (g : GM) : Prop := ∀ d x env σ S H (Q : Slo → Sto → Prop), DV K H d x → EnvR K H env σ → g d env S Q → t x σ H fun σ2 H2 => L2.wipe σ2 vs = L2.wipe σ vs ∧ H2 = H ∧ ∃ env2, EnvR K H env2 σ2 ∧ Q env2 S
def TgsD (K : PySem.W.Frag) (vs : List Nat) (t : TGs) (g : GsM) : Prop := ∀ ds xs env σ S H (Q : Slo → Sto → Prop), DVs K H ds xs → EnvR K H env σ → g ds env S Q → t xs σ H fun σ2 H2 => L2.wipe σ2 vs = L2.wipe σ vs ∧ H2 = H ∧ ∃ env2, EnvR K H env2 σ2 ∧ Q env2 S
section
variable {K : PySem.W.Frag} {vs : List Nat}
theorem tg_nm {i : Nat} (hi : i ∈ vs := by decide) : TgD K vs (gName i) (gNm i) := fun d x env σ S H Q hd r q => ⟨wipe_set hi, rfl, _, r.set hd i, q⟩
theorem tgs_nil : TgsD K vs gNil gN := fun ds xs env σ S H Q hd r q => by
  cases hd with
  | nil => exact ⟨rfl, rfl, rfl, _, r, q⟩
  | cons => exact q.elim
theorem tgs_cons {i : Nat} {ts : TGs} {gs : GsM} (h2 : TgsD K vs ts gs) (hps : ∀ xs σ H (Q Q' : L2.St → Hp → Prop), (∀ s h, Q s h → Q' s h) → ts xs σ H Q → ts xs σ H Q') (hi : i ∈ vs := by decide) : TgsD K vs (gCons (gName i) ts) (gC (gNm i) gs) := fun ds xs env σ S H Q hd r q => by
  cases hd with
  | nil => exact q.elim
  | @cons d ds x xs hd hds =>
    refine ⟨x, xs, rfl, ?_⟩
    refine hps _ _ _ _ _ (fun σ2 H2 z => ?_) (h2 ds xs _ _ S H Q hds (r.set hd i) q)
    obtain ⟨e2, rfl, env2, r2, q2⟩ := z
    exact ⟨e2.trans (wipe_set hi), rfl, env2, r2, q2⟩
theorem gmono_nil : ∀ xs σ H (Q Q' : L2.St → Hp → Prop), (∀ s h, Q s h → Q' s h) → gNil xs σ H Q → gNil xs σ H Q' := fun _ _ _ _ _ i q => ⟨q.1, i _ _ q.2⟩
theorem gmono_cons {i : Nat} {ts : TGs} (hps : ∀ xs σ H (Q Q' : L2.St → Hp → Prop), (∀ s h, Q s h → Q' s h) → ts xs σ H Q → ts xs σ H Q') : ∀ xs σ H (Q Q' : L2.St → Hp → Prop), (∀ s h, Q s h → Q' s h) → gCons (gName i) ts xs σ H Q → gCons (gName i) ts xs σ H Q' := fun xs σ H Q Q' i q => by
  obtain ⟨v, r, e, q⟩ := q
  exact ⟨v, r, e, hps _ _ _ _ _ i q⟩
theorem tg_tup {n : Nat} {ts : TGs} {gs : GsM} (h : TgsD K vs ts gs) : TgD K vs (gTup K n ts) (gT n gs) := fun d x env σ S H Q hd r q => by
  cases hd with
  | tup s z => exact ⟨_, _, rfl, s, by rw [← z.length]; exact q.1, h _ _ _ _ _ _ _ z r q.2⟩
  | _ => exact (show False from q).elim
end
/-! ### tests -/
structure MTs (X : Cx) (B : Hp) (ifs : List Expr) (t : TM) : Prop where
  pts : PTs X ifs (upT X.K X.prog X.w B t)
  mono : MonT t
def mYes : TM := fun _ S Q => Q true S
theorem mts_nil {X : Cx} {B : Hp} : MTs X B [] mYes := by
  refine ⟨⟨fun pins s σ H Q I h => pts_nil.run pins s σ H Q I ?_⟩, fun _ _ _ _ i h => i _ _ h⟩
  obtain ⟨_, env, S, _, z, q⟩ := h
  exact q H (Le.refl H) z
theorem mts_one {X : Cx} {B : Hp} {c : Expr} {t : TM} (h : MT X B c t) : MTs X B [c] t := ⟨pts_one h.pt, h.mono⟩
/-! ### [e for target in iter if ..] -/
def lcL (g : GM) (t : TM) (m : EM) (G : Sto → Prop) (p : Addr) (Q : DQ) (env : Slo) : List D → Sto → Prop
  | [], S => G S ∧ Q (.ref p) S
  | x :: xs, S => G S ∧ g x env S fun env2 S2 => t env2 S2 fun b S3 => match b with
    | true => m env2 S3 fun d S4 => match S4 p with
      | some (.lst ys) => ys.length < sizeLine ∧ lcL g t m G p Q env xs (put S4 p (.lst (ys ++ [d])))
      | _ => False
    | false => lcL g t m G p Q env xs S3
def mLc (mi : IM) (g : GM) (t : TM) (m : EM) (vs : List Nat) : EM := fun env S Q => mi env S fun xs G S1 => ∀ p, S1 p = none → lcL g t m G p Q (wipeD env vs) xs (put S1 p (.lst []))
section
variable {X : Cx} {B : Hp} {elt tg iter : Expr} {ifs : List Expr} {scope : Scope} {own : List (Str × Nat)} {pos : Pos} {mi : IM} {g : GM} {t : TM} {m : EM}
theorem lcL_mono {G : Sto → Prop} {p : Addr} {env : Slo} {Q Q' : DQ} (hg : ∀ d env S (Q Q' : Slo → Sto → Prop), (∀ e S, Q e S → Q' e S) → g d env S Q → g d env S Q') (ht : MonT t) (hm : MonE m) (i : ∀ d S, Q d S → Q' d S) : ∀ xs S, lcL g t m G p Q env xs S → lcL g t m G p Q' env xs S
  | [], S, h => ⟨h.1, i _ _ h.2⟩
  | x :: xs, S, h => ⟨h.1, hg _ _ _ _ _ (fun e s q => ht _ _ _ _ (fun b S3 q => by
      cases b with
      | true =>
        refine hm _ _ _ _ (fun d S4 q => ?_) q
        split at q
        · exact ⟨q.1, lcL_mono hg ht hm i xs _ q.2⟩
        · exact q.elim
      | false => exact lcL_mono hg ht hm i xs _ q) q) h.2⟩
theorem up_lc {K : PySem.W.Frag} {P : Program} {w : World} {wi : TI} {tt : TG} {vs : List Nat} (hwi : ∀ σ H R, (Le B H ∧ ∃ env S, EnvR K H env σ ∧ Rp K P w S H ∧ mi env S fun xs G S1 => ∀ J H1, Le H H1 → Rp K P w S1 H1 → WkD K P w H1 J xs G → R J H1) → wi σ H R)
    (hmi : ∀ env S (Q Q' : List D → (Sto → Prop) → Sto → Prop), (∀ xs G S, Q xs G S → Q' xs G S) → mi env S Q → mi env S Q') (htm : ∀ x σ H (Q Q' : L2.St → Hp → Prop), (∀ s h, Q s h → Q' s h) → tt x σ H Q → tt x σ H Q') (hg : TgD K vs tt g) (hgm : ∀ d env S (Q Q' : Slo → Sto → Prop), (∀ e S, Q e S → Q' e S) → g d env S Q → g d env S Q') (ht : MonT t) (hm : MonE m) {σ : L2.St} {H : Hp} {Q : VK}
    (q : up K P w B (mLc mi g t m vs) σ H Q) : tLc wi tt (upT K P w B t) (up K P w B m) vs σ H Q := by
  obtain ⟨lB, env, S, r0, z0, q⟩ := q
  refine hwi _ _ _ ⟨lB, env, S, r0, z0, hmi _ _ _ _ (fun xs G S1 q J H1 l1 z1 wk => ?_) q⟩
  intro p hp
  have l2 : Le H1 (upd H1 p (.lst [])) := Le.new hp
  have z2 : Rp K P w (put S1 p (.lst [])) (upd H1 p (.lst [])) := z1.new hp ⟨[], upd_same, .nil⟩
  have q := q p (z1.free hp)
  refine ⟨fun i k H' => i ≤ xs.length ∧ k = xs.length - i ∧ Le (upd H1 p (.lst [])) H' ∧ ∃ S, Rp K P w S H' ∧ lcL g t m G p (dnE K P w H Q) (wipeD env vs) (xs.drop i) S, ⟨xs.length, Nat.zero_le _, rfl, Le.refl _, _, z2, q⟩, fun i k H' h => ?_⟩
  obtain ⟨hi, rfl, l3, S, z3, q⟩ := h
  have l23 := l2.trans l3
  by_cases hlt : i < xs.length
  · have ed : xs.drop i = xs[i] :: xs.drop (i + 1) := List.drop_eq_getElem_cons hlt
    rw [ed] at q
    refine .inr ⟨wk.go i S H' hlt l23 z3 q.1, fun H' => Le (upd H1 p (.lst [])) H' ∧ ∃ S, Rp K P w S H' ∧ lcL g t m G p (dnE K P w H Q) (wipeD env vs) (xs.drop (i + 1)) S, fun H3 h => ⟨xs.length - (i + 1), by omega, hlt, rfl, h⟩, fun x H3 hy => ?_⟩
    obtain ⟨l4, z4, d, ex, dv⟩ := wk.yld i S H' x H3 hlt l23 z3 q.1 hy
    have e' : d = xs[i] := by
      rw [List.getElem?_eq_getElem hlt] at ex
      exact (Option.some.inj ex).symm
    subst e'
    have l04 := l1.trans (l23.trans l4)
    refine htm _ _ _ _ _ (fun σ2 H2 z => ?_) (hg _ x _ _ S H3 _ dv ((r0.le l04).wipe vs) q.2)
    obtain ⟨e2, rfl, env2, r2, q2⟩ := z
    refine ⟨e2.trans wipe_wipe, lB.trans l04, env2, S, r2, z4, ht _ _ _ _ (fun b S3 q H5 l5 z5 => ?_) q2⟩
    cases b with
    | false => exact ⟨l3.trans (l4.trans l5), S3, z5, q⟩
    | true =>
      refine ⟨lB.trans (l04.trans l5), env2, S3, r2.le l5, z5, hm _ _ _ _ (fun d S4 q v H6 l6 z6 d6 => ?_) q⟩
      split at q
      · rename_i ys ey
        obtain ⟨us, e1, e2⟩ := z6 _ _ ey
        have hmut : Mut (H6 p) := by rw [e1]; exact trivial
        have l7 := Le.mut (o := .lst (us ++ [v])) hmut
        exact ⟨us, e1, by rw [← e2.length]; exact q.1, l3.trans (l4.trans (l5.trans (l6.trans l7))), _, z6.wr (o := .lst (ys ++ [d])) hmut ⟨_, upd_same, (e2.append (.cons d6 .nil)).le l7⟩, q.2⟩
      · exact q.elim
  · have ei : i = xs.length := by omega
    subst ei
    rw [List.drop_length] at q
    exact .inl ⟨wk.stop S H' l23 z3 q.1, q.2 _ H' (l1.trans l23) z3 (.ref p)⟩
abbrev MonTt (tt : TG) : Prop := ∀ x σ H (Q Q' : L2.St → Hp → Prop), (∀ s h, Q s h → Q' s h) → tt x σ H Q → tt x σ H Q'
theorem gmono_nm {i : Nat} : MonTt (gName i) := fun x σ H Q Q' i q => i _ _ q
theorem gmono_tup {K : PySem.W.Frag} {n : Nat} {ts : TGs} (hps : ∀ xs σ H (Q Q' : L2.St → Hp → Prop), (∀ s h, Q s h → Q' s h) → ts xs σ H Q → ts xs σ H Q') : MonTt (gTup K n ts) := fun x σ H Q Q' i q => by
  obtain ⟨a, xs, e, s, l, q⟩ := q
  exact ⟨a, xs, e, s, l, hps _ _ _ _ _ i q⟩
theorem gm_nm {i : Nat} : ∀ d env S (Q Q' : Slo → Sto → Prop), (∀ e S, Q e S → Q' e S) → gNm i d env S Q → gNm i d env S Q' := fun _ _ _ _ _ i q => i _ _ q
theorem gms_nil : ∀ d env S (Q Q' : Slo → Sto → Prop), (∀ e S, Q e S → Q' e S) → gN d env S Q → gN d env S Q' := fun d env S Q Q' i q => by
  cases d with
  | nil => exact i _ _ q
  | cons => exact q.elim
theorem gms_cons {i : Nat} {gs : GsM} (h : ∀ d env S (Q Q' : Slo → Sto → Prop), (∀ e S, Q e S → Q' e S) → gs d env S Q → gs d env S Q') : ∀ d env S (Q Q' : Slo → Sto → Prop), (∀ e S, Q e S → Q' e S) → gC (gNm i) gs d env S Q → gC (gNm i) gs d env S Q' := fun d env S Q Q' i q => by
  cases d with
  | nil => exact q.elim
  | cons d ds => exact h _ _ _ _ _ i q
theorem gm_tup {n : Nat} {gs : GsM} (h : ∀ d env S (Q Q' : Slo → Sto → Prop), (∀ e S, Q e S → Q' e S) → gs d env S Q → gs d env S Q') : ∀ d env S (Q Q' : Slo → Sto → Prop), (∀ e S, Q e S → Q' e S) → gT n gs d env S Q → gT n gs d env S Q' := fun d env S Q Q' i q => by
  cases d with
  | tp _ ds => exact ⟨q.1, h _ _ _ _ _ i q.2⟩
  | _ => exact (show False from q).elim
/-- a block's target, whole -/
structure BT (K : PySem.W.Frag) (vs : List Nat) (tt : TG) (g : GM) : Prop where
  td : TgD K vs tt g
  mt : MonTt tt
  mg : ∀ d env S (Q Q' : Slo → Sto → Prop), (∀ e S, Q e S → Q' e S) → g d env S Q → g d env S Q'
theorem bt_nm {K : PySem.W.Frag} {vs : List Nat} {i : Nat} (hi : i ∈ vs := by decide) : BT K vs (gName i) (gNm i) := ⟨tg_nm hi, gmono_nm, gm_nm⟩
structure BTs (K : PySem.W.Frag) (vs : List Nat) (ts : TGs) (gs : GsM) : Prop where
  td : TgsD K vs ts gs
  mt : ∀ xs σ H (Q Q' : L2.St → Hp → Prop), (∀ s h, Q s h → Q' s h) → ts xs σ H Q → ts xs σ H Q'
  mg : ∀ d env S (Q Q' : Slo → Sto → Prop), (∀ e S, Q e S → Q' e S) → gs d env S Q → gs d env S Q'
theorem bts_nil {K : PySem.W.Frag} {vs : List Nat} : BTs K vs gNil gN := ⟨tgs_nil, gmono_nil, gms_nil⟩
theorem bts_cons {K : PySem.W.Frag} {vs : List Nat} {i : Nat} {ts : TGs} {gs : GsM} (h : BTs K vs ts gs) (hi : i ∈ vs := by decide) : BTs K vs (gCons (gName i) ts) (gC (gNm i) gs) := ⟨tgs_cons h.td h.mt hi, gmono_cons h.mt, gms_cons h.mg⟩
theorem bt_tup {K : PySem.W.Frag} {vs : List Nat} {n : Nat} {ts : TGs} {gs : GsM} (h : BTs K vs ts gs) : BT K vs (gTup K n ts) (gT n gs) := ⟨tg_tup h.td, gmono_tup h.mt, gm_tup h.mg⟩
abbrev Blk (X : Cx) (scope : Scope) (R : Cx → Prop) : Prop := ∀ (s : Shared) (H : Hp) (C : Addr) (cl : List (Str × Addr)) (fp : List Addr), R (X.blk s H scope (compEnvC scope cl C X.env) fp)
theorem mon_lc {vs : List Nat} (hmi : ∀ env S (Q Q' : List D → (Sto → Prop) → Sto → Prop), (∀ xs G S, Q xs G S → Q' xs G S) → mi env S Q → mi env S Q') (hg : ∀ d env S (Q Q' : Slo → Sto → Prop), (∀ e S, Q e S → Q' e S) → g d env S Q → g d env S Q') (ht : MonT t) (hm : MonE m) : MonE (mLc mi g t m vs) := fun env S Q Q' i q =>
  hmi _ _ _ _ (fun xs G S1 q p hp => lcL_mono hg ht hm i _ _ (q p hp)) q
theorem me_lc {tt : TG} (hc : X.calm = true) (hN : X.N.Nodup) (hi : MI X B tg iter mi) (ok : BlkOk X.N X.env.scope scope own) (bt : BT X.K (own.map (·.2)) tt g)
    (hg : Blk X scope fun Y => PG Y tg tt) (hm : Blk X scope fun Y => MTs Y B ifs t) (he : Blk X scope fun Y => ME Y B elt m) (hs : ∀ x, foldedSetIterable iter X.env x = pure x := by intro _; rfl) :
    ME X B (.ListComp elt [⟨tg, iter, ifs, 0⟩] scope pos) (mLc mi g t m (own.map (·.2))) := by
  have m1 : MonT t := (hm X.s_0 (fun _ => none) 0 [] []).mono
  have m2 : MonE m := (he X.s_0 (fun _ => none) 0 [] []).mono
  exact ⟨pe_imp (pe_lc (wi := fun σ H R => Le B H ∧ ∃ env S, EnvR X.K H env σ ∧ Rp X.K X.prog X.w S H ∧ mi env S fun xs G S1 => ∀ J H1, Le H H1 → Rp X.K X.prog X.w S1 H1 → WkD X.K X.prog X.w H1 J xs G → R J H1) hc hN hi.pi ok hg (fun s H C cl fp => (hm s H C cl fp).pts) (fun s H C cl fp => (he s H C cl fp).pe) hs)
    fun σ H Q q => up_lc (fun _ _ _ z => z) hi.mono bt.mt bt.td bt.mg m1 m2 q, mon_lc hi.mono bt.mg m1 m2⟩
/-- x = [..] on one line -/
theorem ms_setLc {tt : TG} {i : Nat} {y : Str} {py spos : Pos} (hc : X.calm = true) (hN : X.N.Nodup) (hi : MI X B tg iter mi) (ok : BlkOk X.N X.env.scope scope own) (bt : BT X.K (own.map (·.2)) tt g)
    (hg : Blk X scope fun Y => PG Y tg tt) (hm : Blk X scope fun Y => MTs Y B ifs t) (he : Blk X scope fun Y => ME Y B elt m) (hy : X.N[i]? = some y := by rfl) (hyl : X.env.scope.names.lookup y = some .local := by rfl)
    (hsw : swapsWith (.ListComp elt [⟨tg, iter, ifs, 0⟩] scope pos) (some (.Name y py)) spos.line X.env = pure true := by rfl) (hs : ∀ x, foldedSetIterable iter X.env x = pure x := by intro _; rfl) :
    MS X B (.Assign [.Name y py] (.ListComp elt [⟨tg, iter, ifs, 0⟩] scope pos) spos) (mAsg (mLc mi g t m (own.map (·.2))) (gNm i)) := by
  have m1 : MonT t := (hm X.s_0 (fun _ => none) 0 [] []).mono
  have m2 : MonE m := (he X.s_0 (fun _ => none) 0 [] []).mono
  have m3 := mon_lc (vs := own.map (·.2)) hi.mono bt.mg m1 m2
  refine ⟨ps_imp (ps_setLc (tt := upT X.K X.prog X.w B t) (te := up X.K X.prog X.w B m) (wi := fun σ H R => Le B H ∧ ∃ env S, EnvR X.K H env σ ∧ Rp X.K X.prog X.w S H ∧ mi env S fun xs G S1 => ∀ J H1, Le H H1 → Rp X.K X.prog X.w S1 H1 → WkD X.K X.prog X.w H1 J xs G → R J H1) hc hN hy hyl hsw hi.pi ok hg (fun s H C cl fp => (hm s H C cl fp).pts) (fun s H C cl fp => (he s H C cl fp).pe) hs)
    fun D σ H q => ?_, fun A B env S l q => m3 _ _ _ _ (fun d S1 q => l.nx _ _ q) q⟩
  obtain ⟨lB, env, S, r0, z0, q⟩ := q
  refine up_lc (B := B) (mi := mi) (g := g) (t := t) (m := m) (fun _ _ _ z => z) hi.mono bt.mt bt.td bt.mg m1 m2 ⟨lB, env, S, r0, z0, m3 _ _ _ _ (fun d S1 q v H1 l z dv => ?_) q⟩
  exact q _ H1 l ((r0.le l).set dv i) z
end
end DL

set_option Elab.async false
set_option linter.all false
set_option maxRecDepth 100000
set_option maxHeartbeats 4000000
/-! DL9: enumerate over tuples and lists, zip. -/
namespace DL
open PySem PySem.Spec PyProof.Rows L2

/-- enumerate over the tuple at a, counted from k0 -/
def IteT (K : PySem.W.Frag) (k0 : Int) (a : Addr) : It :=
  ⟨fun i H => ∃ (xs : List V) (x : V), SqT K H a xs ∧ xs[i]? = some x, fun i H v H' => ∃ T x, v = .ref T ∧ H T = none ∧ H' = upd H T (.tup [.int (k0 + (i : Nat)), x]) ∧ ∀ xs, SqT K H a xs → xs[i]? = some x, fun i H => ∃ xs : List V, SqT K H a xs ∧ xs.length ≤ i⟩
theorem turn_enumT {P : Program} {w : World} {K : PySem.W.Frag} {elts : List Expr} {kk : Nat} {tpos : Pos} (k0 : Int) (a e it : Addr) :
    Turn P w K (.Tuple elts kk tpos) (IteT K k0 a) [e, it] e (fun i h => (∃ old, IsEnum h e it (k0 + (i : Nat)) old) ∧ h.IsTupleIter it a i ∧ e ≠ it) where
  mem := by simp
  obj := fun i h st b hb => by
    obtain ⟨⟨old, he⟩, ⟨o, ho, hc, hd⟩, _⟩ := st
    have e' : b = e ∨ b = it := by simpa using hb
    rcases e' with z | z
    · rw [z]; exact ⟨_, he, fun v q => nomatch q⟩
    · rw [z]; exact ⟨o, ho, fun v q => by rw [hd] at q; cases q⟩
  keep := fun i h h' st k => let ⟨⟨old, he⟩, hi, hne⟩ := st; ⟨⟨old, k e (by simp) _ he⟩, hi.at fun o q => k it (by simp) o q, hne⟩
  item := by
    intro X hP hw hK hc i pins s σ H E I hf st hg
    subst hP hw hK
    obtain ⟨⟨old, he⟩, hit, hne⟩ := st
    obtain ⟨xs, x, hq, hx⟩ := hg
    obtain ⟨its, rv, p, hz⟩ := I.tuple hq
    obtain ⟨u, hu, ru⟩ := rv.get hx
    have hp : s.heap.IsTuple a its.toArray := p
    have hel : e < s.heap.objs.size := Heap.lt_size he
    have hil : it < s.heap.objs.size := by obtain ⟨_, q, _⟩ := hit; exact Heap.lt_size q
    have ai : a ≠ it := fun q => by
      obtain ⟨o, ho, hcl, _⟩ := hit
      obtain ⟨o2, ho2, hc2, _⟩ := hp
      rw [q, ho] at ho2
      cases ho2
      rw [hcl] at hc2
      exact absurd hc2 (by decide)
    have ae : e ≠ a := fun q => by
      obtain ⟨o2, ho2, hc2, _⟩ := hp
      have he' := he
      rw [q] at he'
      have z := Option.some.inj (he'.symm.trans ho2)
      rw [← z] at hc2
      exact absurd (show Value.type "enumerate" = Value.type "tuple" from hc2) (by decide)
    have hh : X.A.in1.handled = none := I.ok.hd hc
    have hlt : i < its.toArray.size := by
      have := (List.getElem?_eq_some_iff.mp hu).1
      simpa using this
    have D := Draws.tuple (prog := X.prog) (w := X.w) (A := X.A.in1) hh it a ai its.toArray
    refine wpAny_pyNext_enum_itemC (c := k0 + (i : Nat)) D he ⟨hit, hp⟩ hlt hne (by simp [hne, ae]) fun x' h' tk hPx ho hst' hT hsz hk => ?_
    have ex : x' = u := by
      have h1 : its.toArray[i]? = some u := by simpa using hu
      exact Option.some.inj (hPx.symm.trans h1)
    subst ex
    refine ⟨_, rfl, wpAny_letOwnedTupleGo_enum (s := { s with heap := h', toks := tk + 1 }) ho fun h'' he' sb => ?_⟩
    have hT2 : h''.get? s.heap.objs.size = some { cls := .type "tuple", data := .seq #[.int (k0 + (i : Nat)) tk, x'] } := (sb.2 _ (Nat.ne_of_gt hel)).trans hT
    have new : ObjOk X.prog X.w (upd H s.heap.objs.size (.tup [.int (k0 + (i : Nat)), x])) h'' s.heap.objs.size (.tup [.int (k0 + (i : Nat)), x]) :=
      ⟨by show 2 ≤ sizeLine; decide, [.int (k0 + (i : Nat)) tk, x'], .cons ⟨_, rfl⟩ (.cons ru .nil), ⟨_, hT2, rfl, _, rfl⟩⟩
    have I1 : Inv X pins σ (upd H s.heap.objs.size (.tup [.int (k0 + (i : Nat)), x])) { s with heap := h'', toks := tk + 1 } :=
      I.turnedNew (ch := [e, it]) (fun b ob hb q => (sb.2 b (fun z => hb (by simp [z]))).trans (hk b ob (fun z => hb (by simp [z])) (fun z => hb (by simp [z])) q)) hf (Nat.le_refl _) new
    refine ⟨.ref s.heap.objs.size, _, I1, rfl, ⟨_, x, rfl, I.hok.fresh (Nat.le_refl _), rfl, fun ys hy => by rw [I.tuple_inj hy hq]; exact hx⟩, ⟨⟨x', ?_⟩, hst'.1.at fun o q => (sb.2 it (Ne.symm hne)).trans q, hne⟩, fun b hb => ?_⟩
    · have e1 : k0 + ((i + 1 : Nat) : Int) = k0 + (i : Nat) + 1 := by omega
      rw [e1]; exact he'
    · have hb' : b < s.heap.objs.size := by
        have e' : b = e ∨ b = it := by simpa using hb
        rcases e' with z | z
        · rw [z]; exact hel
        · rw [z]; exact hil
      rw [upd_ne (Nat.ne_of_lt hb')]
      exact (hf b hb).1
  done := by
    intro X hP hw hK hc i pins s σ H E I hf st hg
    subst hP hw hK
    obtain ⟨⟨old, he⟩, hit, hne⟩ := st
    obtain ⟨xs, hq, hx⟩ := hg
    obtain ⟨its, rv, p, hz⟩ := I.tuple hq
    obtain ⟨f0, f1, f2, f3, f4, f5⟩ := hf it (by simp)
    have hp : s.heap.IsTuple a its.toArray := p
    have hl := rv.length
    have hh : X.A.in1.handled = none := I.ok.hd hc
    have hT : s.TypeIs (.ref e) "enumerate" := ⟨_, he, rfl⟩
    unfold pyNext
    refine wpAny_bind (wpAny_attempt (wpAny_callSpecial?_slot (name := Str.ofString "__next__") hT F.slot_enumerate_next
      (wpAny_call_entry F.slot_enumerate_next hT F.entry_enumerate_next ?_ (F.args_enumerate_next_1 _))))
    show wpAny _ _ (field (.ref e) 2 >>= _) _ _ _
    refine wpAny_bind (wpAny_field he rfl (x := .ref it) rfl ?_)
    refine wpAny_bind (wpAny_nextOf_tuple_end (A := X.A.in1) hh hit hp (by simp; omega) fun h' x eb hx' => ?_)
    obtain ⟨o, ho, hc⟩ := hx'
    refine wpAny_bind (wpAny_isInstance (T := "StopIteration") (b := true) ⟨o, ho, hc⟩ isSubtype_stop ?_)
    exact wpAny_pure ⟨rfl, I.turned (t' := s.toks) (fun b o hb q => eb b o hb q) f0 f1 f3 f4 f5⟩
  self := fun A i s Q E st h => let ⟨⟨_, he⟩, _⟩ := st; wpAny_pyIter_enum he h

/-- enumerate over the list at a, counted from k0 -/
def IteL (K : PySem.W.Frag) (k0 : Int) (a : Addr) : It :=
  ⟨fun i H => ∃ (xs : List V) (x : V), SqL K H a xs ∧ xs[i]? = some x, fun i H v H' => ∃ T x, v = .ref T ∧ H T = none ∧ H' = upd H T (.tup [.int (k0 + (i : Nat)), x]) ∧ ∀ xs, SqL K H a xs → xs[i]? = some x, fun i H => ∃ xs : List V, SqL K H a xs ∧ xs.length ≤ i⟩
theorem turn_enumL {P : Program} {w : World} {K : PySem.W.Frag} {elts : List Expr} {kk : Nat} {tpos : Pos} (k0 : Int) (a e it : Addr) :
    Turn P w K (.Tuple elts kk tpos) (IteL K k0 a) [e, it] e (fun i h => (∃ old, IsEnum h e it (k0 + (i : Nat)) old) ∧ h.IsListIter it a i ∧ e ≠ it) where
  mem := by simp
  obj := fun i h st b hb => by
    obtain ⟨⟨old, he⟩, ⟨o, ho, hc, hd⟩, _⟩ := st
    have e' : b = e ∨ b = it := by simpa using hb
    rcases e' with z | z
    · rw [z]; exact ⟨_, he, fun v q => nomatch q⟩
    · rw [z]; exact ⟨o, ho, fun v q => by rw [hd] at q; cases q⟩
  keep := fun i h h' st k => let ⟨⟨old, he⟩, hi, hne⟩ := st; ⟨⟨old, k e (by simp) _ he⟩, hi.at fun o q => k it (by simp) o q, hne⟩
  item := by
    intro X hP hw hK hc i pins s σ H E I hf st hg
    subst hP hw hK
    obtain ⟨⟨old, he⟩, hit, hne⟩ := st
    obtain ⟨xs, x, hq, hx⟩ := hg
    obtain ⟨its, rv, p, hz⟩ := I.list hq
    obtain ⟨u, hu, ru⟩ := rv.get hx
    have hp : s.heap.IsList a its.toArray := p.isList
    have hel : e < s.heap.objs.size := Heap.lt_size he
    have hil : it < s.heap.objs.size := by obtain ⟨_, q, _⟩ := hit; exact Heap.lt_size q
    have ai : a ≠ it := fun q => by
      obtain ⟨o, ho, hcl, _⟩ := hit
      obtain ⟨o2, ho2, hc2, _⟩ := hp
      rw [q, ho] at ho2
      cases ho2
      rw [hcl] at hc2
      exact absurd hc2 (by decide)
    have ae : e ≠ a := fun q => by
      obtain ⟨o2, ho2, hc2, _⟩ := hp
      have he' := he
      rw [q] at he'
      have z := Option.some.inj (he'.symm.trans ho2)
      rw [← z] at hc2
      exact absurd (show Value.type "enumerate" = Value.type "list" from hc2) (by decide)
    have hh : X.A.in1.handled = none := I.ok.hd hc
    have hlt : i < its.toArray.size := by
      have := (List.getElem?_eq_some_iff.mp hu).1
      simpa using this
    have D := Draws.list (prog := X.prog) (w := X.w) (A := X.A.in1) hh it a ai its.toArray
    refine wpAny_pyNext_enum_itemC (c := k0 + (i : Nat)) D he ⟨hit, hp⟩ hlt hne (by simp [hne, ae]) fun x' h' tk hPx ho hst' hT hsz hk => ?_
    have ex : x' = u := by
      have h1 : its.toArray[i]? = some u := by simpa using hu
      exact Option.some.inj (hPx.symm.trans h1)
    subst ex
    refine ⟨_, rfl, wpAny_letOwnedTupleGo_enum (s := { s with heap := h', toks := tk + 1 }) ho fun h'' he' sb => ?_⟩
    have hT2 : h''.get? s.heap.objs.size = some { cls := .type "tuple", data := .seq #[.int (k0 + (i : Nat)) tk, x'] } := (sb.2 _ (Nat.ne_of_gt hel)).trans hT
    have new : ObjOk X.prog X.w (upd H s.heap.objs.size (.tup [.int (k0 + (i : Nat)), x])) h'' s.heap.objs.size (.tup [.int (k0 + (i : Nat)), x]) :=
      ⟨by show 2 ≤ sizeLine; decide, [.int (k0 + (i : Nat)) tk, x'], .cons ⟨_, rfl⟩ (.cons ru .nil), ⟨_, hT2, rfl, _, rfl⟩⟩
    have I1 : Inv X pins σ (upd H s.heap.objs.size (.tup [.int (k0 + (i : Nat)), x])) { s with heap := h'', toks := tk + 1 } :=
      I.turnedNew (ch := [e, it]) (fun b ob hb q => (sb.2 b (fun z => hb (by simp [z]))).trans (hk b ob (fun z => hb (by simp [z])) (fun z => hb (by simp [z])) q)) hf (Nat.le_refl _) new
    refine ⟨.ref s.heap.objs.size, _, I1, rfl, ⟨_, x, rfl, I.hok.fresh (Nat.le_refl _), rfl, fun ys hy => by rw [I.list_inj hy hq]; exact hx⟩, ⟨⟨x', ?_⟩, hst'.1.at fun o q => (sb.2 it (Ne.symm hne)).trans q, hne⟩, fun b hb => ?_⟩
    · have e1 : k0 + ((i + 1 : Nat) : Int) = k0 + (i : Nat) + 1 := by omega
      rw [e1]; exact he'
    · have hb' : b < s.heap.objs.size := by
        have e' : b = e ∨ b = it := by simpa using hb
        rcases e' with z | z
        · rw [z]; exact hel
        · rw [z]; exact hil
      rw [upd_ne (Nat.ne_of_lt hb')]
      exact (hf b hb).1
  done := by
    intro X hP hw hK hc i pins s σ H E I hf st hg
    subst hP hw hK
    obtain ⟨⟨old, he⟩, hit, hne⟩ := st
    obtain ⟨xs, hq, hx⟩ := hg
    obtain ⟨its, rv, p, hz⟩ := I.list hq
    obtain ⟨f0, f1, f2, f3, f4, f5⟩ := hf it (by simp)
    have hp : s.heap.IsList a its.toArray := p.isList
    have hl := rv.length
    have hh : X.A.in1.handled = none := I.ok.hd hc
    have hT : s.TypeIs (.ref e) "enumerate" := ⟨_, he, rfl⟩
    unfold pyNext
    refine wpAny_bind (wpAny_attempt (wpAny_callSpecial?_slot (name := Str.ofString "__next__") hT F.slot_enumerate_next
      (wpAny_call_entry F.slot_enumerate_next hT F.entry_enumerate_next ?_ (F.args_enumerate_next_1 _))))
    show wpAny _ _ (field (.ref e) 2 >>= _) _ _ _
    refine wpAny_bind (wpAny_field he rfl (x := .ref it) rfl ?_)
    refine wpAny_bind (wpAny_nextOf_list_end (A := X.A.in1) hh hit hp (by simp; omega) fun h' x eb hx' => ?_)
    obtain ⟨o, ho, hc⟩ := hx'
    refine wpAny_bind (wpAny_isInstance (T := "StopIteration") (b := true) ⟨o, ho, hc⟩ isSubtype_stop ?_)
    exact wpAny_pure ⟨rfl, I.turned (t' := s.toks) (fun b o hb q => eb b o hb q) f0 f1 f3 f4 f5⟩
  self := fun A i s Q E st h => let ⟨⟨_, he⟩, _⟩ := st; wpAny_pyIter_enum he h

theorem meets_enum0 {v : Value} {o : Obj} {H : Heap → Prop} (B : Begins v o H) :
    Meets (Builtin.«enumerate.__new__» ⟨[.type "enumerate", v], []⟩) (fun _ R s => H s.heap ∧
      R (.ok (.ret (.ref (s.heap.push o).objs.size))) { s with heap := (s.heap.push o).push { cls := .type "enumerate", data := .fields #[.none, .bool false, .ref s.heap.objs.size, rawInt 0, .none, .none] } }) :=
  .of_wp fun prog w A R s h => by
    obtain ⟨hp, g, d, tk, os⟩ := s; obtain ⟨h1, h⟩ := h
    have hsub := sub_enumerate
    have q1 : ∀ {A' : Around} {E : Value → Shared → Prop} {Q : Value → Shared → Prop}, Q (.ref hp.objs.size) ⟨hp.push o, g, d, tk, os⟩ → wpAny (model prog w) A' (pyIter v) Q E ⟨hp, g, d, tk, os⟩ :=
      fun q => B.iter prog w _ _ ⟨hp, g, d, tk, os⟩ _ h1 q
    wp_walk using q1
    refine wpAny_stack_any fun st => wpAny_pure ?_
    split
    · rename_i c _ _ _ _ _
      cases (c == Value.type "enumerate")
      · wp_walk using q1
        exact ⟨_, rfl, h⟩
      · wp_walk using q1
        exact ⟨_, rfl, h⟩
    · wp_walk using q1
      exact ⟨_, rfl, h⟩
theorem enum_begins0 {prog : Program} {w : World} {A : Around} {E : Value → Shared → Prop} {s : Shared} {v : Value} {o : Obj} {H : Heap → Prop} {Q : Value → Shared → Prop} (B : Begins v o H) (h1 : H s.heap)
    (h : ∀ h', IsEnum h' (s.heap.objs.size + 1) s.heap.objs.size 0 .none → h'.get? s.heap.objs.size = some o → h'.objs.size = s.heap.objs.size + 2 →
      (∀ b o, s.heap.get? b = some o → h'.get? b = some o) → Q (.ref (s.heap.objs.size + 1)) { s with heap := h' }) :
    wpAny (model prog w) A (call (.type "enumerate") [v]) Q E s := by
  refine callType_new F.called_enumerate (by decide) (F.typeCall_enumerate_1 _) (F.newCall_enumerate_1 _) (fun obj => F.args_object_init_2 obj _) F.entry_enumerate_new
    (meets_enum0 B) ⟨h1, ?_⟩
  have hz : (s.heap.push o).objs.size = s.heap.objs.size + 1 := Heap.size_push ..
  show _ ∧ _
  rw [hz]
  have he : IsEnum ((s.heap.push o).push { cls := .type "enumerate", data := .fields #[.none, .bool false, .ref s.heap.objs.size, rawInt 0, .none, .none] }) (s.heap.objs.size + 1) s.heap.objs.size 0 .none := by
    have := Heap.get?_push_size (s.heap.push o) (o := { cls := .type "enumerate", data := .fields #[.none, .bool false, .ref s.heap.objs.size, rawInt 0, .none, .none] }) rfl
    rw [hz] at this; exact this
  refine ⟨⟨_, he, rfl⟩, h _ he (Heap.get?_push_of_some _ (Heap.get?_push_size _ B.free)) (by rw [Heap.size_push, hz]) fun b o x => Heap.get?_push_of_some _ (Heap.get?_push_of_some _ x)⟩
def iEnumA (K : PySem.W.Frag) (ta : TA) : TI := fun σ H R => ta σ H fun vs H1 => ∃ a, vs = [.ref a] ∧ ((∃ xs, SqL K H1 a xs ∧ R (IteL K 0 a) H1) ∨ ∃ xs, SqT K H1 a xs ∧ R (IteT K 0 a) H1)
theorem pi_enumA {X : Cx} {e : Expr} {ta : TA} {p pos tpos : Pos} {elts : List Expr} {kk : Nat} (hg : Gl X "enumerate") (hm : X.mg "enumerate" = none) (ha : PA X [e] ta) (hs : starEach [e] X.env = [(false, eval e X.env)] := by rfl) :
    PI X (.Tuple elts kk tpos) (.Call (.Name "enumerate" p) [e] [] pos) (iEnumA X.K ta) := by
  refine ⟨fun pins s σ H R I h => ?_⟩
  refine Call_ (ld_blt I hg hm boot_enumerate (PyProof.Rows.callWith_type1 (thn (ha.run pos pins s σ H _ I h) fun us s1 ⟨vs, H1, I1, r1, q1⟩ => ?_) hs rfl))
  obtain ⟨a, ex, q⟩ := q1
  subst ex
  cases r1 with
  | cons r rr =>
    cases rr
    cases r
    have fpo : ∀ b ∈ [s1.heap.objs.size + 1, s1.heap.objs.size], FpOk X pins H1 b := fun b hb => by
      have e' : b = s1.heap.objs.size + 1 ∨ b = s1.heap.objs.size := by simpa using hb
      have hle : s1.heap.objs.size ≤ b := by
        rcases e' with z | z
        · rw [z]; exact Nat.le_add_right _ _
        · rw [z]; exact Nat.le_refl _
      exact I1.fpOk hle (I1.hok.fresh hle)
    rcases q with ⟨xs, hq, q⟩ | ⟨xs, hq, q⟩
    · obtain ⟨its, rv, p', hz⟩ := I1.list hq
      refine enum_begins0 (begins_list a its.toArray) p'.isList fun h' he hit hsz hk => wpAny_pyIter_enum he ?_
      have I2 : Inv X pins σ H1 { s1 with heap := h' } := I1.kept (t' := s1.toks) hk
      exact ⟨s1.heap.objs.size + 1, [s1.heap.objs.size + 1, s1.heap.objs.size], _, _, H1, rfl, I2, turn_enumL 0 a (s1.heap.objs.size + 1) s1.heap.objs.size, ⟨⟨.none, he⟩, ⟨_, hit, rfl, rfl⟩, Nat.succ_ne_self _⟩, fpo, q⟩
    · obtain ⟨its, rv, p', hz⟩ := I1.tuple hq
      refine enum_begins0 (begins_tuple a its.toArray) (show s1.heap.IsTuple a its.toArray from p') fun h' he hit hsz hk => wpAny_pyIter_enum he ?_
      have I2 : Inv X pins σ H1 { s1 with heap := h' } := I1.kept (t' := s1.toks) hk
      exact ⟨s1.heap.objs.size + 1, [s1.heap.objs.size + 1, s1.heap.objs.size], _, _, H1, rfl, I2, turn_enumT 0 a (s1.heap.objs.size + 1) s1.heap.objs.size, ⟨⟨.none, he⟩, ⟨_, hit, rfl, rfl⟩, Nat.succ_ne_self _⟩, fpo, q⟩
/-- the items with their numbers -/
def numD (k0 : Int) : List D → List D
  | [] => []
  | x :: xs => .tup [.int k0, x] :: numD (k0 + 1) xs
theorem numD_len : ∀ (k0 : Int) (xs : List D), (numD k0 xs).length = xs.length
  | _, [] => rfl
  | k0, x :: xs => by simp [numD, numD_len]
theorem numD_get : ∀ (k0 : Int) (xs : List D) (i : Nat), (numD k0 xs)[i]? = (xs[i]?).map fun x => .tup [.int (k0 + i), x]
  | _, [], i => by simp [numD]
  | k0, x :: xs, 0 => by simp [numD]
  | k0, x :: xs, i + 1 => by
    simp only [numD, List.getElem?_cons_succ, numD_get (k0 + 1) xs i]
    congr 1
    funext y
    have : k0 + 1 + (i : Int) = k0 + ((i + 1 : Nat) : Int) := by omega
    rw [this]
section
variable {K : PySem.W.Frag} {P : Program} {w : World} {H1 : Hp} {a : Addr} {vs : List V} {ds : List D} {k0 : Int}
theorem pair_new {S : Sto} {H : Hp} {T : Addr} {x y : V} {d e : D} (r : Rp K P w S H) (hT : H T = none) (h1 : DV K H d x) (h2 : DV K H e y) : Le H (upd H T (.tup [x, y])) ∧ Rp K P w S (upd H T (.tup [x, y])) ∧ DV K (upd H T (.tup [x, y])) (.tup [d, e]) (.ref T) :=
  ⟨Le.new hT, r.more hT, .tup (.inl (.inl upd_same)) (.cons (h1.le (Le.new hT)) (.cons (h2.le (Le.new hT)) .nil)) upd_same⟩
theorem wk_enumT (s : SqT K H1 a vs) (z : DVs K H1 ds vs) : WkD K P w H1 (IteT K k0 a) (numD k0 ds) fun _ => True where
  go := fun i S H hi l _ _ => by
    rw [numD_len, z.length] at hi
    exact ⟨vs, vs[i], SqT_le l s, List.getElem?_eq_getElem hi⟩
  stop := fun S H l _ _ => by
    rw [numD_len, z.length]
    exact ⟨vs, SqT_le l s, Nat.le_refl _⟩
  yld := fun i S H x H' hi l r _ y => by
    obtain ⟨T, x', rfl, hT, rfl, hx⟩ := y
    rw [numD_len] at hi
    obtain ⟨v, e3, dv⟩ := (z.le l).get (List.getElem?_eq_getElem hi)
    have hx' := hx vs (SqT_le l s)
    rw [e3] at hx'
    cases hx'
    obtain ⟨p1, p2, p3⟩ := pair_new r hT (.int (k0 + (i : Nat))) dv
    exact ⟨p1, p2, _, by rw [numD_get, List.getElem?_eq_getElem hi]; rfl, p3⟩
theorem wk_enumR (s : RoL K H1 a vs) (z : DVs K H1 ds vs) : WkD K P w H1 (IteL K k0 a) (numD k0 ds) fun _ => True where
  go := fun i S H hi l _ _ => by
    rw [numD_len, z.length] at hi
    exact ⟨vs, vs[i], (s.le l).sq, List.getElem?_eq_getElem hi⟩
  stop := fun S H l _ _ => by
    rw [numD_len, z.length]
    exact ⟨vs, (s.le l).sq, Nat.le_refl _⟩
  yld := fun i S H x H' hi l r _ y => by
    obtain ⟨T, x', rfl, hT, rfl, hx⟩ := y
    rw [numD_len] at hi
    obtain ⟨v, e3, dv⟩ := (z.le l).get (List.getElem?_eq_getElem hi)
    have hx' := hx vs (s.le l).sq
    rw [e3] at hx'
    cases hx'
    obtain ⟨p1, p2, p3⟩ := pair_new r hT (.int (k0 + (i : Nat))) dv
    exact ⟨p1, p2, _, by rw [numD_get, List.getElem?_eq_getElem hi]; rfl, p3⟩
theorem wk_enumL : WkD K P w H1 (IteL K k0 a) (numD k0 ds) fun S => S a = some (.lst ds) where
  go := fun i S H hi l r g => by
    obtain ⟨vs, q, z⟩ := r _ _ g
    rw [numD_len, z.length] at hi
    exact ⟨vs, vs[i], SqL.of q, List.getElem?_eq_getElem hi⟩
  stop := fun S H l r g => by
    obtain ⟨vs, q, z⟩ := r _ _ g
    rw [numD_len, z.length]
    exact ⟨vs, SqL.of q, Nat.le_refl _⟩
  yld := fun i S H x H' hi l r g y => by
    obtain ⟨vs, q, z⟩ := r _ _ g
    obtain ⟨T, x', rfl, hT, rfl, hx⟩ := y
    rw [numD_len] at hi
    obtain ⟨v, e3, dv⟩ := z.get (List.getElem?_eq_getElem hi)
    have hx' := hx vs (SqL.of q)
    rw [e3] at hx'
    cases hx'
    obtain ⟨p1, p2, p3⟩ := pair_new r hT (.int (k0 + (i : Nat))) dv
    exact ⟨p1, p2, _, by rw [numD_get, List.getElem?_eq_getElem hi]; rfl, p3⟩
theorem wk_zipT {b : Addr} {us : List V} {es : List D} (s : SqT K H1 a vs) (z : DVs K H1 ds vs) (s' : SqT K H1 b us) (z' : DVs K H1 es us) : WkD K P w H1 (RZ.ItzT K a b) (List.zipWith (fun x y => .tup [x, y]) ds es) fun _ => True where
  go := fun i S H hi l _ _ => by
    rw [List.length_zipWith, z.length, z'.length] at hi
    exact ⟨vs, us, vs[i]'(by omega), us[i]'(by omega), SqT_le l s, SqT_le l s', List.getElem?_eq_getElem (by omega), List.getElem?_eq_getElem (by omega)⟩
  stop := fun S H l _ _ => by
    rw [List.length_zipWith, z.length, z'.length]
    exact ⟨vs, us, SqT_le l s, SqT_le l s', by omega⟩
  yld := fun i S H x H' hi l r _ y => by
    obtain ⟨T, x', y', rfl, hT, rfl, hx, hy⟩ := y
    rw [List.length_zipWith] at hi
    obtain ⟨v, e3, dv⟩ := (z.le l).get (List.getElem?_eq_getElem (show i < ds.length by omega))
    obtain ⟨v', e3', dv'⟩ := (z'.le l).get (List.getElem?_eq_getElem (show i < es.length by omega))
    have hx' := hx vs (SqT_le l s)
    have hy' := hy us (SqT_le l s')
    rw [e3] at hx'
    rw [e3'] at hy'
    cases hx'
    cases hy'
    obtain ⟨p1, p2, p3⟩ := pair_new r hT dv dv'
    refine ⟨p1, p2, _, ?_, p3⟩
    rw [List.getElem?_zipWith, List.getElem?_eq_getElem (show i < ds.length by omega), List.getElem?_eq_getElem (show i < es.length by omega)]
end
section
variable {X : Cx} {B : Hp} {p pos tpos : Pos} {elts : List Expr} {kk : Nat}
def iEnumD (m : AM) : IM := fun env S R => m env S fun ds S1 => match ds with
  | [.tp _ xs] => R (numD 0 xs) (fun _ => True) S1
  | [.rol xs] => R (numD 0 xs) (fun _ => True) S1
  | [.ref a] => match S1 a with
    | some (.lst xs) => R (numD 0 xs) (fun S => S a = some (.lst xs)) S1
    | _ => False
  | _ => False
theorem mi_enum {e : Expr} {m : AM} (ha : MA X B [e] m) (hm : X.mg "enumerate" = none) (hg : Gl X "enumerate" := by rfl) (hs : starEach [e] X.env = [(false, eval e X.env)] := by rfl) : MI X B (.Tuple elts kk tpos) (.Call (.Name "enumerate" p) [e] [] pos) (iEnumD m) := by
  refine ⟨pi_imp (pi_enumA hg hm ha.pa hs) fun σ H R q => ?_, fun env S Q Q' i q => ha.mono env S _ _ (fun d S1 q => ?_) q⟩
  · obtain ⟨lB, env, S, r0, z0, q⟩ := q
    refine ⟨lB, env, S, r0, z0, ha.mono env S _ _ (fun ds S1 q vs H1 l1 z1 d1 => ?_) q⟩
    split at q
    · obtain ⟨v, rfl, dv⟩ := dvs1 d1
      cases dv with
      | tup s z => exact ⟨_, rfl, .inr ⟨_, s, q _ H1 l1 z1 (wk_enumT s z)⟩⟩
    · obtain ⟨v, rfl, dv⟩ := dvs1 d1
      cases dv with
      | rol s z => exact ⟨_, rfl, .inl ⟨_, s.sq, q _ H1 l1 z1 (wk_enumR s z)⟩⟩
    · obtain ⟨v, rfl, dv⟩ := dvs1 d1
      cases dv
      split at q
      · rename_i xs e0
        obtain ⟨vs, q1, z⟩ := z1 _ _ e0
        exact ⟨_, rfl, .inl ⟨_, SqL.of q1, q _ H1 l1 z1 wk_enumL⟩⟩
      · exact q.elim
    · exact q.elim
  · split at q
    · exact i _ _ _ q
    · exact i _ _ _ q
    · split at q
      · exact i _ _ _ q
      · exact q.elim
    · exact q.elim
def iZipD (m : AM) : IM := fun env S R => m env S fun ds S1 => match ds with
  | [.tp _ xs, .tp _ ys] => R (List.zipWith (fun x y => .tup [x, y]) xs ys) (fun _ => True) S1
  | _ => False
theorem mi_zip {e e2 : Expr} {m : AM} (ha : MA X B [e, e2] m) (hm : X.mg "zip" = none) (hg : Gl X "zip" := by rfl) (hs : starEach [e, e2] X.env = (false, eval e X.env) :: starEach [e2] X.env := by rfl) (hpl : (backTo pos (starEach [e2] X.env)).any (·.1) = false := by rfl) :
    MI X B (.Tuple elts kk tpos) (.Call (.Name "zip" p) [e, e2] [] pos) (iZipD m) := by
  refine ⟨pi_imp (RZ.pi_zipA hg hm ha.pa hs hpl) fun σ H R q => ?_, fun env S Q Q' i q => ha.mono env S _ _ (fun d S1 q => ?_) q⟩
  · obtain ⟨lB, env, S, r0, z0, q⟩ := q
    refine ⟨lB, env, S, r0, z0, ha.mono env S _ _ (fun ds S1 q vs H1 l1 z1 d1 => ?_) q⟩
    split at q
    · obtain ⟨v, u, rfl, dv, du⟩ := dvs2 d1
      cases dv with
      | tup s z =>
        cases du with
        | tup s' z' => exact ⟨_, _, _, _, rfl, .inr ⟨s, s', q _ H1 l1 z1 (wk_zipT s z s' z')⟩⟩
    · exact q.elim
  · split at q
    · exact i _ _ _ q
    · exact q.elim
end
end DL

set_option Elab.async false
set_option linter.all false
set_option maxRecDepth 100000
set_option maxHeartbeats 4000000
/-! DL10: built-in methods, dicts, sets made, dict comprehensions, new instances, globals. -/
namespace DL
open PySem PySem.Spec PyProof.Rows L2
/-! ### methods of built-in types -/
abbrev MM := D → List D → Sto → DQ → Prop
structure MetD (X : Cx) (id : String) (r : MM) : Prop where
  mt : MtR X id fun x xs H Q => ∃ d ds S, DV X.K H d x ∧ DVs X.K H ds xs ∧ Rp X.K X.prog X.w S H ∧ r d ds S (dnE X.K X.prog X.w H Q)
  mono : ∀ d ds S (Q Q' : DQ), (∀ d S, Q d S → Q' d S) → r d ds S Q → r d ds S Q'
section
variable {X : Cx} {B : Hp}
theorem metd {id : String} {r : MM} (R : V → List V → Hp → VK → Prop) (h : MtR X id R) (hR : ∀ x xs H Q d ds S, DV X.K H d x → DVs X.K H ds xs → Rp X.K X.prog X.w S H → r d ds S (dnE X.K X.prog X.w H Q) → R x xs H Q)
    (mono : ∀ d ds S (Q Q' : DQ), (∀ d S, Q d S → Q' d S) → r d ds S Q → r d ds S Q') : MetD X id r := ⟨fun pins s σ H x xs v us Q I rx rxs q => by
  obtain ⟨d, ds, S, h1, h2, h3, h4⟩ := q
  exact h pins s σ H x xs v us Q I rx rxs (hR x xs H Q d ds S h1 h2 h3 h4), mono⟩
def mMet (ok : D → Sto → Prop) (r : MM) (mo : EM) (ma : AM) : EM := fun env S Q => mo env S fun d S1 => ok d S1 ∧ ma env S1 fun ds S2 => r d ds S2 Q
variable {o e : Expr} {es : List Expr} {name : Str} {apos cpos pos : Pos} {T id : String} {r : MM} {mo : EM} {ma : AM} {ok : D → Sto → Prop} {ty : V → Hp → Prop}
theorem me_met (ht : TyOk X T ty) (hty : ∀ d x S H, DV X.K H d x → Rp X.K X.prog X.w S H → ok d S → ty x H) (pa : PlainAttrs T) (slot : Slot T name id) (htd : typeOf (.builtin id) = pure (.type "method_descriptor")) (hm : MetD X id r) (ho : ME X B o mo) (ha : MA X B (e :: es) ma)
    (hbase : attributeBase o name X.env (eval o X.env) = eval o X.env := by rfl)
    (hfew : ((backTo cpos (starEach (e :: es) X.env)).all (fun x => !x.1) && (backToKw cpos (keywordEach [] X.env)).all (fun x => x.1.isSome)
      && decide ((e :: es).length + ([] : List Keyword).length + (if ([] : List Keyword).isEmpty then 0 else 1) < 30)) = true := by rfl)
    (hline : (apos.endLine == cpos.line) = true := by rfl) (hs : starEach (e :: es) X.env = (false, eval e X.env) :: starEach es X.env := by rfl) (hplain : (backTo cpos (starEach es X.env)).any (·.1) = false := by rfl) :
    ME X B (.Call (.Attribute o name apos) (e :: es) [] cpos) (mMet ok r mo ma) := by
  refine ⟨pe_imp (pe_mG ht pa slot htd hm.mt ho.pe ha.pa hbase hfew hline hs hplain) fun σ H Q q => ?_, fun env S Q Q' i q => ho.mono env S _ _ (fun d S1 q => ⟨q.1, ha.mono env S1 _ _ (fun ds S2 q => hm.mono _ _ _ _ _ i q) q.2⟩) q⟩
  obtain ⟨lB, env, S, r0, z0, q⟩ := q
  refine ⟨lB, env, S, r0, z0, ho.mono env S _ _ (fun d S1 q v H1 l1 z1 d1 => ?_) q⟩
  refine ⟨hty _ _ _ _ d1 z1 q.1, lB.trans l1, env, S1, r0.le l1, z1, ha.mono env S1 _ _ (fun ds S2 q vs H2 l2 z2 d2 => ?_) q.2⟩
  exact ⟨d, ds, S2, d1.le l2, d2, z2, hm.mono _ _ _ _ _ (dnE_le (l1.trans l2)) q⟩
theorem me_met0 (ht : TyOk X T ty) (hty : ∀ d x S H, DV X.K H d x → Rp X.K X.prog X.w S H → ok d S → ty x H) (pa : PlainAttrs T) (slot : Slot T name id) (htd : typeOf (.builtin id) = pure (.type "method_descriptor")) (hm : MetD X id r) (ho : ME X B o mo)
    (hbase : attributeBase o name X.env (eval o X.env) = eval o X.env := by rfl) (hline : (apos.endLine == cpos.line) = true := by rfl) : ME X B (.Call (.Attribute o name apos) [] [] cpos) (mMet ok r mo mNil) := by
  refine ⟨pe_imp (pe_mG0 ht pa slot htd hm.mt ho.pe hbase hline) fun σ H Q q => ?_, fun env S Q Q' i q => ho.mono env S _ _ (fun d S1 q => ⟨q.1, hm.mono _ _ _ _ _ i q.2⟩) q⟩
  obtain ⟨lB, env, S, r0, z0, q⟩ := q
  refine ⟨lB, env, S, r0, z0, ho.mono env S _ _ (fun d S1 q v H1 l1 z1 d1 => ?_) q⟩
  exact ⟨hty _ _ _ _ d1 z1 q.1, d, [], S1, d1, .nil, z1, hm.mono _ _ _ _ _ (dnE_le l1) q.2⟩
/-! lists -/
def okL (d : D) (S : Sto) : Prop := match d with
  | .ref a => match S a with
    | some (.lst _) => True
    | _ => False
  | _ => False
theorem ty_V {T : String} : TyOk X T (tyV X.K T) := fun pins σ H s x v I r ty => tyV_is I r ty
theorem ty_okL : ∀ d x S H, DV X.K H d x → Rp X.K X.prog X.w S H → okL d S → tyV X.K "list" x H := fun d x S H h r q => by
  unfold okL at q
  split at q
  · cases h
    split at q
    · rename_i a e0
      obtain ⟨vs, e, _⟩ := r _ _ e0
      exact .inl ⟨rfl, vs, SqL.of e⟩
    · exact q.elim
  · exact q.elim
theorem wr_lst {K : PySem.W.Frag} {P : Program} {w : World} {S : Sto} {H : Hp} {Q : VK} {a : Addr} {us ws : List V} {ds : List D} {d : D} {v : V} (r : Rp K P w S H) (e : H a = some (.lst us)) (z : DVs K H ds ws) (dv : DV K H d v) (q : dnE K P w H Q d (put S a (.lst ds))) : Q v (upd H a (.lst ws)) := by
  have hmut : Mut (H a) := by rw [e]; exact trivial
  have l := Le.mut (o := .lst ws) hmut
  exact q v _ l (r.wr (o := .lst ds) hmut ⟨ws, upd_same, z.le l⟩) (dv.le l)
def rApp : MM := fun d ds S Q => match d, ds with
  | .ref a, [y] => match S a with
    | some (.lst xs) => xs.length < sizeLine ∧ Q .non (put S a (.lst (xs ++ [y])))
    | _ => False
  | _, _ => False
theorem md_append : MetD X "list.append" rApp := by
  refine metd _ mt_append (fun x xs H Q d ds S h1 h2 r q => ?_) (fun d ds S Q Q' i q => ?_)
  · unfold rApp at q
    split at q
    · rename_i a y
      obtain ⟨v, rfl, dv⟩ := dvs1 h2
      cases h1
      split at q
      · rename_i ys e0
        obtain ⟨us, e, z⟩ := r _ _ e0
        exact ⟨_, us, v, rfl, rfl, e, by rw [← z.length]; exact q.1, wr_lst r e (z.append (.cons dv .nil)) .non q.2⟩
      · exact q.elim
    · exact q.elim
  · unfold rApp at q ⊢
    split at q
    · split at q
      · exact ⟨q.1, i _ _ q.2⟩
      · exact q.elim
    · exact q.elim
def rExt : MM := fun d ds S Q => match d, ds with
  | .ref a, [.ref b] => match S a, S b with
    | some (.lst xs), some (.lst ys) => xs.length + ys.length ≤ sizeLine ∧ Q .non (put S a (.lst (xs ++ ys)))
    | _, _ => False
  | _, _ => False
theorem md_extend : MetD X "list.extend" rExt := by
  refine metd _ mt_extend (fun x xs H Q d ds S h1 h2 r q => ?_) (fun d ds S Q Q' i q => ?_)
  · unfold rExt at q
    split at q
    · rename_i a b
      obtain ⟨v, rfl, dv⟩ := dvs1 h2
      cases h1
      cases dv
      split at q
      · rename_i ys zs e0 e1
        obtain ⟨us, e, z⟩ := r _ _ e0
        obtain ⟨us', e', z'⟩ := r _ _ e1
        exact ⟨_, _, us, us', rfl, rfl, e, e', by rw [← z.length, ← z'.length]; exact q.1, wr_lst r e (z.append z') .non q.2⟩
      · exact q.elim
    · exact q.elim
  · unfold rExt at q ⊢
    split at q
    · split at q
      · exact ⟨q.1, i _ _ q.2⟩
      · exact q.elim
    · exact q.elim
def rRev : MM := fun d ds S Q => match d, ds with
  | .ref a, [] => match S a with
    | some (.lst xs) => Q .non (put S a (.lst xs.reverse))
    | _ => False
  | _, _ => False
theorem md_reverse : MetD X "list.reverse" rRev := by
  refine metd _ mt_reverse (fun x xs H Q d ds S h1 h2 r q => ?_) (fun d ds S Q Q' i q => ?_)
  · unfold rRev at q
    split at q
    · rename_i a
      cases h2
      cases h1
      split at q
      · rename_i ys e0
        obtain ⟨us, e, z⟩ := r _ _ e0
        exact ⟨_, us, rfl, rfl, e, wr_lst r e z.reverse .non q⟩
      · exact q.elim
    · exact q.elim
  · unfold rRev at q ⊢
    split at q
    · split at q
      · exact i _ _ q
      · exact q.elim
    · exact q.elim
/-! o.append(x), .. in short -/
theorem me_append (ho : ME X B o mo) (ha : MA X B [e] ma) (hbase : attributeBase o "append" X.env (eval o X.env) = eval o X.env := by rfl)
    (hfew : ((backTo cpos (starEach [e] X.env)).all (fun x => !x.1) && (backToKw cpos (keywordEach [] X.env)).all (fun x => x.1.isSome)
      && decide ([e].length + ([] : List Keyword).length + (if ([] : List Keyword).isEmpty then 0 else 1) < 30)) = true := by rfl)
    (hline : (apos.endLine == cpos.line) = true := by rfl) (hs : starEach [e] X.env = (false, eval e X.env) :: starEach [] X.env := by rfl) (hplain : (backTo cpos (starEach [] X.env)).any (·.1) = false := by rfl) :
    ME X B (.Call (.Attribute o "append" apos) [e] [] cpos) (mMet okL rApp mo ma) := me_met ty_V ty_okL F.plainAttrs_list F.slot_list_append F.type_list_append md_append ho ha hbase hfew hline hs hplain
theorem me_extend (ho : ME X B o mo) (ha : MA X B [e] ma) (hbase : attributeBase o "extend" X.env (eval o X.env) = eval o X.env := by rfl)
    (hfew : ((backTo cpos (starEach [e] X.env)).all (fun x => !x.1) && (backToKw cpos (keywordEach [] X.env)).all (fun x => x.1.isSome)
      && decide ([e].length + ([] : List Keyword).length + (if ([] : List Keyword).isEmpty then 0 else 1) < 30)) = true := by rfl)
    (hline : (apos.endLine == cpos.line) = true := by rfl) (hs : starEach [e] X.env = (false, eval e X.env) :: starEach [] X.env := by rfl) (hplain : (backTo cpos (starEach [] X.env)).any (·.1) = false := by rfl) :
    ME X B (.Call (.Attribute o "extend" apos) [e] [] cpos) (mMet okL rExt mo ma) := me_met ty_V ty_okL F.plainAttrs_list F.slot_list_extend F.type_list_extend md_extend ho ha hbase hfew hline hs hplain
theorem me_reverse (ho : ME X B o mo) (hbase : attributeBase o "reverse" X.env (eval o X.env) = eval o X.env := by rfl) (hline : (apos.endLine == cpos.line) = true := by rfl) :
    ME X B (.Call (.Attribute o "reverse" apos) [] [] cpos) (mMet okL rRev mo mNil) := me_met0 ty_V ty_okL F.plainAttrs_list F.slot_list_reverse F.type_list_reverse md_reverse ho hbase hline
/-! ### set(), s.add(k) -/
def vSet0 : CM := fun ds S Q => match ds with
  | [] => ∀ p, S p = none → Q (.ref p) (put S p (.set (fun _ => false) 0))
  | _ => False
theorem cd_set0 : CallD X (.type "set") vSet0 := by
  refine calld _ cr_set0K (fun xs H Q ds S h r q => ?_) (fun ds S Q Q' i q => ?_)
  · cases h with
    | nil => exact ⟨rfl, fun p hp => q p (r.free hp) _ _ (Le.new hp) (r.new hp upd_same) (.ref p)⟩
    | cons => exact q.elim
  · cases ds with
    | nil => exact fun p hp => i _ _ (q p hp)
    | cons => exact q.elim
theorem mut_set {K : PySem.W.Frag} {P : Program} {w : World} {H : Hp} {a : Addr} {f : Key → Bool} {n : Nat} (e : OOk K P w H a (.set f n)) : Mut (H a) := by
  have e' : H a = some (SetK P w a f n) := e
  rw [e']
  exact trivial
def okS (d : D) (S : Sto) : Prop := match d with
  | .ref a => match S a with
    | some (.set _ _) => True
    | _ => False
  | _ => False
def mAdd (mo : EM) (ma : AM) : EM := fun env S Q => mo env S fun d S1 => okS d S1 ∧ ma env S1 fun ds S2 => match d, ds with
  | .ref a, [y] => match S2 a, keyD y with
    | some (.set f n), some k => n + 1 < scanBound ∧ Q .non (put S2 a (.set (fun j => f j || decide (j = k)) (if f k = true then n else n + 1)))
    | _, _ => False
  | _, _ => False
theorem me_add (ho : ME X B o mo) (ha : MA X B [e] ma) (hbase : attributeBase o "add" X.env (eval o X.env) = eval o X.env := by rfl)
    (hfew : ((backTo cpos (starEach [e] X.env)).all (fun x => !x.1) && (backToKw cpos (keywordEach [] X.env)).all (fun x => x.1.isSome)
      && decide ([e].length + ([] : List Keyword).length + (if ([] : List Keyword).isEmpty then 0 else 1) < 30)) = true := by rfl)
    (hline : (apos.endLine == cpos.line) = true := by rfl) (hs : starEach [e] X.env = (false, eval e X.env) :: starEach [] X.env := by rfl) (hplain : (backTo cpos (starEach [] X.env)).any (·.1) = false := by rfl) :
    ME X B (.Call (.Attribute o "add" apos) [e] [] cpos) (mAdd mo ma) := by
  refine ⟨pe_imp (pe_saddK ho.pe ha.pa hbase hfew hline hs hplain) fun σ H Q q => ?_, fun env S Q Q' i q => ho.mono env S _ _ (fun d S1 q => ⟨q.1, ha.mono env S1 _ _ (fun ds S2 q => ?_) q.2⟩) q⟩
  · obtain ⟨lB, env, S, r0, z0, q⟩ := q
    refine ⟨lB, env, S, r0, z0, ho.mono env S _ _ (fun d S1 q v H1 l1 z1 d1 => ?_) q⟩
    obtain ⟨q1, q⟩ := q
    refine ⟨?_, lB.trans l1, env, S1, r0.le l1, z1, ha.mono env S1 _ _ (fun ds S2 q vs H2 l2 z2 d2 => ?_) q⟩
    · unfold okS at q1
      split at q1
      · cases d1
        split at q1
        · rename_i f n e0
          exact ⟨_, f, n, rfl, z1 _ _ e0⟩
        · exact q1.elim
      · exact q1.elim
    · split at q
      · obtain ⟨u, rfl, du⟩ := dvs1 d2
        cases d1
        split at q
        · rename_i f n k e0 ek
          have eu := key_dv du ek
          subst eu
          have e1 := z2 _ _ e0
          have hmut := mut_set e1
          exact ⟨_, k, f, n, rfl, rfl, e1, q.1, q.2 _ _ ((l1.trans l2).trans (Le.mut hmut)) (z2.wr (o := .set _ _) hmut upd_same) .non⟩
        · exact q.elim
      · exact q.elim
  · split at q
    · split at q
      · exact ⟨q.1, i _ _ q.2⟩
      · exact q.elim
    · exact q.elim
/-! ### dicts -/
def mDNew : EM := fun _ S Q => ∀ p, S p = none → Q (.ref p) (put S p (.dic []))
theorem me_dnew : ME X B (.Dict [] [] pos) mDNew := by
  refine ⟨pe_imp pe_dnewK fun σ H Q q => ?_, fun env S Q Q' i q p hp => i _ _ (q p hp)⟩
  obtain ⟨lB, env, S, r0, z0, q⟩ := q
  exact fun p hp => q p (z0.free hp) _ _ (Le.new hp) (z0.new (o := .dic []) hp ⟨[], upd_same, .nil⟩) (.ref p)
def vDict : CM := fun ds S Q => match ds with
  | [.ref a] => match S a with
    | some (.dic kvs) => ∀ p, S p = none → Q (.ref p) (put S p (.dic kvs))
    | _ => False
  | _ => False
theorem cd_dict : CallD X (.type "dict") vDict := by
  refine calld _ call_dictD (fun xs H Q ds S h r q => ?_) (fun ds S Q Q' i q => ?_)
  · unfold vDict at q
    split at q
    · obtain ⟨v, rfl, dv⟩ := dvs1 h
      cases dv
      split at q
      · rename_i kvs e0
        obtain ⟨vs, e, z⟩ := r _ _ e0
        exact ⟨_, vs, rfl, .inl e, fun p hp => q p (r.free hp) _ _ (Le.new hp) (r.new (o := .dic kvs) hp ⟨vs, upd_same, z.le (Le.new hp)⟩) (.ref p)⟩
      · exact q.elim
    · exact q.elim
  · unfold vDict at q ⊢
    split at q
    · split at q
      · exact fun p hp => i _ _ (q p hp)
      · exact q.elim
    · exact q.elim
/-- {k: v, ..} -/
def mPs : List (EM × EM) → Slo → Sto → (List (D × D) → Sto → Prop) → Prop
  | [], _, S, Q => Q [] S
  | (mk, mv) :: r, env, S, Q => mk env S fun x S1 => mv env S1 fun y S2 => mPs r env S2 fun ps S3 => Q ((x, y) :: ps) S3
structure MPs (X : Cx) (B : Hp) (pos : Pos) (keys : List (Option Expr)) (values : List Expr) (ms : List (EM × EM)) : Prop where
  pps : PPs X pos keys values (ms.map fun p => (up X.K X.prog X.w B p.1, up X.K X.prog X.w B p.2))
  mono : ∀ p ∈ ms, MonE p.1 ∧ MonE p.2
theorem mps_nil : MPs X B pos [] [] [] := ⟨pps_nil, fun _ h => nomatch h⟩
theorem mps_cons {k v : Expr} {ks : List (Option Expr)} {vs : List Expr} {mk mv : EM} {ms : List (EM × EM)} (hk : ME X B k mk) (hv : ME X B v mv) (hr : MPs X B pos ks vs ms) : MPs X B pos (some k :: ks) (v :: vs) ((mk, mv) :: ms) :=
  ⟨pps_cons hk.pe hv.pe hr.pps, fun p h => by
    rcases List.mem_cons.mp h with e | h
    · subst e; exact ⟨hk.mono, hv.mono⟩
    · exact hr.mono p h⟩
def keyPs : List (D × D) → Option (List (Key × D))
  | [] => some []
  | (k, v) :: r => match keyD k, keyPs r with
    | some k, some r => some ((k, v) :: r)
    | _, _ => none
def mergeD (kvs more : List (Key × D)) : List (Key × D) := more.foldl (fun acc kv => putD acc kv.1 kv.2) kvs
def mDisp (ms : List (EM × EM)) : EM := fun env S Q => ∀ p, S p = none → mPs ms env (put S p (.dic [])) fun ps S2 => match keyPs ps with
  | some kvs => S2 p = some (.dic []) ∧ kvs.length ≤ 15 ∧ Q (.ref p) (put S2 p (.dic (mergeD [] kvs)))
  | none => False
theorem mon_ps : ∀ {ms : List (EM × EM)}, (∀ p ∈ ms, MonE p.1 ∧ MonE p.2) → ∀ env S (Q Q' : List (D × D) → Sto → Prop), (∀ ps S, Q ps S → Q' ps S) → mPs ms env S Q → mPs ms env S Q'
  | [], _, env, S, Q, Q', i, q => i _ _ q
  | (mk, mv) :: r, h, env, S, Q, Q', i, q => (h _ (List.mem_cons_self ..)).1 env S _ _ (fun x S1 q => (h _ (List.mem_cons_self ..)).2 env S1 _ _ (fun y S2 q => mon_ps (fun p hp => h p (List.mem_cons_of_mem _ hp)) env S2 _ _ (fun ps S3 q => i _ _ q) q) q) q
inductive DPs (K : PySem.W.Frag) (H : Hp) : List (D × D) → List (V × V) → Prop
  | nil : DPs K H [] []
  | cons {a b : D} {x y : V} {r : List (D × D)} {s : List (V × V)} : DV K H a x → DV K H b y → DPs K H r s → DPs K H ((a, b) :: r) ((x, y) :: s)
theorem DPs.le {K : PySem.W.Frag} {H H' : Hp} {r : List (D × D)} {s : List (V × V)} (l : Le H H') (h : DPs K H r s) : DPs K H' r s := by
  induction h with
  | nil => exact .nil
  | cons h1 h2 _ ih => exact .cons (h1.le l) (h2.le l) ih
theorem up_ps {K : PySem.W.Frag} {P : Program} {w : World} : ∀ {ms : List (EM × EM)}, (∀ p ∈ ms, MonE p.1 ∧ MonE p.2) → ∀ {σ : L2.St} {H : Hp} {Q : List (V × V) → Hp → Prop} {env : Slo} {S : Sto}, Le B H → EnvR K H env σ → Rp K P w S H →
    mPs ms env S (fun ps S' => ∀ vs H', Le H H' → Rp K P w S' H' → DPs K H' ps vs → Q vs H') → tPairs (ms.map fun p => (up K P w B p.1, up K P w B p.2)) σ H Q
  | [], _, σ, H, Q, env, S, lB, r0, z0, q => q [] H (Le.refl H) z0 .nil
  | (mk, mv) :: r, h, σ, H, Q, env, S, lB, r0, z0, q => by
    refine ⟨lB, env, S, r0, z0, (h _ (List.mem_cons_self ..)).1 env S _ _ (fun x S1 q v H1 l1 z1 d1 => ?_) q⟩
    refine ⟨lB.trans l1, env, S1, r0.le l1, z1, (h _ (List.mem_cons_self ..)).2 env S1 _ _ (fun y S2 q u H2 l2 z2 d2 => ?_) q⟩
    refine up_ps (fun p hp => h p (List.mem_cons_of_mem _ hp)) (lB.trans (l1.trans l2)) (r0.le (l1.trans l2)) z2 (mon_ps (fun p hp => h p (List.mem_cons_of_mem _ hp)) _ _ _ _ (fun ps S3 q vs H3 l3 z3 d3 => ?_) q)
    exact q _ H3 ((l1.trans l2).trans l3) z3 (.cons (d1.le (l2.trans l3)) (d2.le l3) d3)
theorem key_ps {K : PySem.W.Frag} {H : Hp} {ps : List (D × D)} {vs : List (V × V)} (h : DPs K H ps vs) : ∀ {kvs : List (Key × D)}, keyPs ps = some kvs → ∃ us : List (Key × V), vs = us.map (fun kv => (kV kv.1, kv.2)) ∧ KVs K H kvs us := by
  induction h with
  | nil => intro kvs e; cases e; exact ⟨[], rfl, .nil⟩
  | @cons a b x y r s h1 h2 h3 ih =>
    intro kvs e
    unfold keyPs at e
    split at e
    · rename_i k r' ek er
      cases e
      obtain ⟨us, rfl, z⟩ := ih er
      have ex := key_dv h1 ek
      subst ex
      exact ⟨(k, y) :: us, rfl, .cons h2 z⟩
    · cases e
theorem KVs.merge {K : PySem.W.Frag} {H : Hp} {more : List (Key × D)} {mv : List (Key × V)} (h : KVs K H more mv) : ∀ {ds : List (Key × D)} {vs : List (Key × V)}, KVs K H ds vs → KVs K H (mergeD ds more) (mergeK vs mv) := by
  induction h with
  | nil => intro ds vs h; exact h
  | cons h1 _ ih => intro ds vs h; exact ih (h.put _ h1)
theorem me_disp {keys : List (Option Expr)} {values : List Expr} {ms : List (EM × EM)} (h : MPs X B pos keys values ms) (hall : keys.all (·.isSome) = true := by rfl) (hl : keys.length = values.length := by rfl) (h0 : keys ≠ [] := by simp)
    (h15 : keys.length ≤ 15 := by decide) : ME X B (.Dict keys values pos) (mDisp ms) := by
  refine ⟨pe_imp (pe_disp h.pps hall hl h0 h15) fun σ H Q q => ?_, fun env S Q Q' i q p hp => mon_ps h.mono _ _ _ _ (fun ps S2 q => ?_) (q p hp)⟩
  · obtain ⟨lB, env, S, r0, z0, q⟩ := q
    intro p hp
    have l1 : Le H (upd H p (.dK [])) := Le.new hp
    have z1 : Rp X.K X.prog X.w (put S p (.dic [])) (upd H p (.dK [])) := z0.new (o := .dic []) hp ⟨[], upd_same, .nil⟩
    refine up_ps h.mono (lB.trans l1) (r0.le l1) z1 (mon_ps h.mono _ _ _ _ (fun ps S2 q vs H2 l2 z2 d2 => ?_) (q p (z0.free hp)))
    split at q
    · rename_i kvs ek
      obtain ⟨q1, q2, q3⟩ := q
      obtain ⟨us, rfl, zk⟩ := key_ps d2 ek
      obtain ⟨ws, e1, e2⟩ := z2 _ _ q1
      have ew : ws = [] := by cases e2; rfl
      subst ew
      have hmut : Mut (H2 p) := by rw [e1]; exact trivial
      have l3 := Le.mut (o := .dK (mergeK [] us)) hmut
      exact ⟨e1, us, rfl, by rw [← zk.length]; exact q2, q3 _ _ ((l1.trans l2).trans l3) (z2.wr (o := .dic (mergeD [] kvs)) hmut ⟨_, upd_same, ((zk.merge .nil)).le l3⟩) (.ref p)⟩
    · exact q.elim
  · split at q
    · exact ⟨q.1, q.2.1, i _ _ q.2.2⟩
    · exact q.elim
/-- d.get(k, x) -/
def okDi (d : D) (S : Sto) : Prop := match d with
  | .ref a => match S a with
    | some (.dic _) => True
    | _ => False
  | _ => False
def mGet2 (mo mk mx : EM) : EM := fun env S Q => mo env S fun d S1 => okDi d S1 ∧ mk env S1 fun k S2 => mx env S2 fun z S3 => match d with
  | .ref a => match S3 a, keyD k with
    | some (.dic kvs), some kk => Q ((valD kvs kk).getD z) S3
    | _, _ => False
  | _ => False
theorem me_get2 {f : Expr} {mk mx : EM} (hu : X.A.units + 1 < cLine) (ho : ME X B o mo) (he : ME X B e mk) (hf : ME X B f mx) (m : M2 X o "get" apos e f cpos := by exact ⟨rfl, rfl, rfl, rfl⟩) : ME X B (.Call (.Attribute o "get" apos) [e, f] [] cpos) (mGet2 mo mk mx) := by
  refine ⟨pe_imp (pe_dget2 hu ho.pe he.pe hf.pe m) fun σ H Q q => ?_, fun env S Q Q' i q => ho.mono env S _ _ (fun d S1 q => ⟨q.1, he.mono env S1 _ _ (fun k S2 q => hf.mono env S2 _ _ (fun z S3 q => ?_) q) q.2⟩) q⟩
  · obtain ⟨lB, env, S, r0, z0, q⟩ := q
    refine ⟨lB, env, S, r0, z0, ho.mono env S _ _ (fun d S1 q v H1 l1 z1 d1 => ?_) q⟩
    obtain ⟨q1, q⟩ := q
    have hd : ∃ a, v = .ref a ∧ d = .ref a ∧ IsD H1 a := by
      unfold okDi at q1
      split at q1
      · cases d1
        split at q1
        · rename_i kvs e0
          obtain ⟨vs, e1, _⟩ := z1 _ _ e0
          exact ⟨_, rfl, rfl, .inl ⟨vs, .inl e1⟩⟩
        · exact q1.elim
      · exact q1.elim
    obtain ⟨a, rfl, rfl, hD⟩ := hd
    refine ⟨a, rfl, hD, lB.trans l1, env, S1, r0.le l1, z1, he.mono env S1 _ _ (fun k S2 q kv H2 l2 z2 d2 => ?_) q⟩
    refine ⟨lB.trans (l1.trans l2), env, S2, r0.le (l1.trans l2), z2, hf.mono env S2 _ _ (fun z S3 q zv H3 l3 z3 d3 => ?_) q⟩
    dsimp only at q
    split at q
    · rename_i kvs kk e0 ek
      have ev := key_dv d2 ek
      subst ev
      obtain ⟨vs, e1, zz⟩ := z3 _ _ e0
      refine ⟨_, DGet.k e1, ?_⟩
      have l123 := (l1.trans l2).trans l3
      cases hv : valD kvs kk with
      | none =>
        rw [hv] at q
        rw [(zz.val kk).2 hv]
        exact q _ H3 l123 z3 d3
      | some x =>
        rw [hv] at q
        obtain ⟨u, eu, du⟩ := (zz.val kk).1 x hv
        rw [eu]
        exact q _ H3 l123 z3 du
    · exact q.elim
  · split at q
    · split at q
      · exact i _ _ q
      · exact q.elim
    · exact q.elim
/-! ### globals -/
theorem me_gint {x : Str} {i : Int} (h : ∃ t, X.mg x = some (.int i t)) (hg : Gl X x := by rfl) (hd : (x == ("__debug__" : Str)) = false := by decide) : ME X B (.Name x pos) (mC (.int i)) := by
  obtain ⟨t, h⟩ := h
  exact me_C (pe_glob (v := .int i) hg h ⟨t, rfl⟩ hd) fun _ => .int i
end
end DL

set_option Elab.async false
set_option linter.all false
set_option maxRecDepth 100000
set_option maxHeartbeats 4000000
/-! DL11: dict comprehensions, new instances. -/
namespace DL
open PySem PySem.Spec PyProof.Rows L2
def dcL (g : GM) (t : TM) (mk mv : EM) (G : Sto → Prop) (p : Addr) (Q : DQ) (env : Slo) : List D → Sto → Prop
  | [], S => G S ∧ Q (.ref p) S
  | x :: xs, S => G S ∧ g x env S fun env2 S2 => t env2 S2 fun b S3 => match b with
    | true => mk env2 S3 fun y S4 => mv env2 S4 fun z S5 => match S5 p, keyD y with
      | some (.dic kvs), some k => kvs.length < sizeLine ∧ dcL g t mk mv G p Q env xs (put S5 p (.dic (putD kvs k z)))
      | _, _ => False
    | false => dcL g t mk mv G p Q env xs S3
def mDc (mi : IM) (g : GM) (t : TM) (mk mv : EM) (vs : List Nat) : EM := fun env S Q => mi env S fun xs G S1 => ∀ p, S1 p = none → dcL g t mk mv G p Q (wipeD env vs) xs (put S1 p (.dic []))
section
variable {X : Cx} {B : Hp} {kx vx tg iter : Expr} {ifs : List Expr} {scope : Scope} {own : List (Str × Nat)} {pos : Pos} {mi : IM} {g : GM} {t : TM} {mk mv : EM}
theorem dcL_mono {G : Sto → Prop} {p : Addr} {env : Slo} {Q Q' : DQ} (hg : ∀ d env S (Q Q' : Slo → Sto → Prop), (∀ e S, Q e S → Q' e S) → g d env S Q → g d env S Q') (ht : MonT t) (hk : MonE mk) (hm : MonE mv) (i : ∀ d S, Q d S → Q' d S) : ∀ xs S, dcL g t mk mv G p Q env xs S → dcL g t mk mv G p Q' env xs S
  | [], S, h => ⟨h.1, i _ _ h.2⟩
  | x :: xs, S, h => ⟨h.1, hg _ _ _ _ _ (fun e s q => ht _ _ _ _ (fun b S3 q => by
      cases b with
      | true =>
        refine hk _ _ _ _ (fun d S4 q => hm _ _ _ _ (fun d S5 q => ?_) q) q
        split at q
        · exact ⟨q.1, dcL_mono hg ht hk hm i xs _ q.2⟩
        · exact q.elim
      | false => exact dcL_mono hg ht hk hm i xs _ q) q) h.2⟩
theorem up_dc {K : PySem.W.Frag} {P : Program} {w : World} {wi : TI} {tt : TG} {vs : List Nat} (hwi : ∀ σ H R, (Le B H ∧ ∃ env S, EnvR K H env σ ∧ Rp K P w S H ∧ mi env S fun xs G S1 => ∀ J H1, Le H H1 → Rp K P w S1 H1 → WkD K P w H1 J xs G → R J H1) → wi σ H R)
    (hmi : ∀ env S (Q Q' : List D → (Sto → Prop) → Sto → Prop), (∀ xs G S, Q xs G S → Q' xs G S) → mi env S Q → mi env S Q') (bt : BT K vs tt g) (ht : MonT t) (hk : MonE mk) (hm : MonE mv) {σ : L2.St} {H : Hp} {Q : VK}
    (q : up K P w B (mDc mi g t mk mv vs) σ H Q) : tDc wi tt (upT K P w B t) (up K P w B mk) (up K P w B mv) vs σ H Q := by
  obtain ⟨lB, env, S, r0, z0, q⟩ := q
  refine hwi _ _ _ ⟨lB, env, S, r0, z0, hmi _ _ _ _ (fun xs G S1 q J H1 l1 z1 wk => ?_) q⟩
  intro p hp
  have l2 : Le H1 (upd H1 p (.dK [])) := Le.new hp
  have z2 : Rp K P w (put S1 p (.dic [])) (upd H1 p (.dK [])) := z1.new (o := .dic []) hp ⟨[], upd_same, .nil⟩
  have q := q p (z1.free hp)
  refine ⟨fun i k H' => i ≤ xs.length ∧ k = xs.length - i ∧ Le (upd H1 p (.dK [])) H' ∧ ∃ S, Rp K P w S H' ∧ dcL g t mk mv G p (dnE K P w H Q) (wipeD env vs) (xs.drop i) S, ⟨xs.length, Nat.zero_le _, rfl, Le.refl _, _, z2, q⟩, fun i k H' h => ?_⟩
  obtain ⟨hi, rfl, l3, S, z3, q⟩ := h
  have l23 := l2.trans l3
  by_cases hlt : i < xs.length
  · have ed : xs.drop i = xs[i] :: xs.drop (i + 1) := List.drop_eq_getElem_cons hlt
    rw [ed] at q
    refine .inr ⟨wk.go i S H' hlt l23 z3 q.1, fun H' => Le (upd H1 p (.dK [])) H' ∧ ∃ S, Rp K P w S H' ∧ dcL g t mk mv G p (dnE K P w H Q) (wipeD env vs) (xs.drop (i + 1)) S, fun H3 h => ⟨xs.length - (i + 1), by omega, hlt, rfl, h⟩, fun x H3 hy => ?_⟩
    obtain ⟨l4, z4, d, ex, dv⟩ := wk.yld i S H' x H3 hlt l23 z3 q.1 hy
    have e' : d = xs[i] := by
      rw [List.getElem?_eq_getElem hlt] at ex
      exact (Option.some.inj ex).symm
    subst e'
    have l04 := l1.trans (l23.trans l4)
    refine bt.mt _ _ _ _ _ (fun σ2 H2 z => ?_) (bt.td _ x _ _ S H3 _ dv ((r0.le l04).wipe vs) q.2)
    obtain ⟨e2, rfl, env2, r2, q2⟩ := z
    refine ⟨e2.trans wipe_wipe, lB.trans l04, env2, S, r2, z4, ht _ _ _ _ (fun b S3 q H5 l5 z5 => ?_) q2⟩
    cases b with
    | false => exact ⟨l3.trans (l4.trans l5), S3, z5, q⟩
    | true =>
      refine ⟨lB.trans (l04.trans l5), env2, S3, r2.le l5, z5, hk _ _ _ _ (fun d S4 q v H6 l6 z6 d6 => ?_) q⟩
      refine ⟨lB.trans (l04.trans (l5.trans l6)), env2, S4, r2.le (l5.trans l6), z6, hm _ _ _ _ (fun d' S5 q v' H7 l7 z7 d7 => ?_) q⟩
      split at q
      · rename_i kvs kk ey ek
        obtain ⟨us, e1, e2⟩ := z7 _ _ ey
        have ev := key_dv d6 ek
        subst ev
        have hmut : Mut (H7 p) := by rw [e1]; exact trivial
        have l8 := Le.mut (o := .dK (putK us kk v')) hmut
        exact ⟨us, kk, rfl, e1, by rw [← e2.length]; exact q.1, l3.trans (l4.trans (l5.trans (l6.trans (l7.trans l8)))), _, z7.wr (o := .dic (putD kvs kk d')) hmut ⟨_, upd_same, (e2.put kk d7).le l8⟩, q.2⟩
      · exact q.elim
  · have ei : i = xs.length := by omega
    subst ei
    rw [List.drop_length] at q
    exact .inl ⟨wk.stop S H' l23 z3 q.1, q.2 _ H' (l1.trans l23) z3 (.ref p)⟩
theorem mon_dc {vs : List Nat} (hmi : ∀ env S (Q Q' : List D → (Sto → Prop) → Sto → Prop), (∀ xs G S, Q xs G S → Q' xs G S) → mi env S Q → mi env S Q') (hg : ∀ d env S (Q Q' : Slo → Sto → Prop), (∀ e S, Q e S → Q' e S) → g d env S Q → g d env S Q') (ht : MonT t) (hk : MonE mk) (hm : MonE mv) : MonE (mDc mi g t mk mv vs) := fun env S Q Q' i q =>
  hmi _ _ _ _ (fun xs G S1 q p hp => dcL_mono hg ht hk hm i _ _ (q p hp)) q
abbrev wiOf (X : Cx) (B : Hp) (mi : IM) : TI := fun σ H R => Le B H ∧ ∃ env S, EnvR X.K H env σ ∧ Rp X.K X.prog X.w S H ∧ mi env S fun xs G S1 => ∀ J H1, Le H H1 → Rp X.K X.prog X.w S1 H1 → WkD X.K X.prog X.w H1 J xs G → R J H1
theorem me_dc {tt : TG} (hc : X.calm = true) (hN : X.N.Nodup) (hi : MI X B tg iter mi) (ok : BlkOk X.N X.env.scope scope own) (bt : BT X.K (own.map (·.2)) tt g)
    (hg : Blk X scope fun Y => PG Y tg tt) (hm : Blk X scope fun Y => MTs Y B ifs t) (hk : Blk X scope fun Y => ME Y B kx mk) (he : Blk X scope fun Y => ME Y B vx mv) (hs : ∀ x, foldedSetIterable iter X.env x = pure x := by intro _; rfl) :
    ME X B (.DictComp kx vx [⟨tg, iter, ifs, 0⟩] scope pos) (mDc mi g t mk mv (own.map (·.2))) := by
  have m1 : MonT t := (hm X.s_0 (fun _ => none) 0 [] []).mono
  have m2 : MonE mk := (hk X.s_0 (fun _ => none) 0 [] []).mono
  have m3 : MonE mv := (he X.s_0 (fun _ => none) 0 [] []).mono
  exact ⟨pe_imp (pe_dc (wi := wiOf X B mi) (tt := upT X.K X.prog X.w B t) (tk := up X.K X.prog X.w B mk) (tv := up X.K X.prog X.w B mv) hc hN hi.pi ok hg (fun s H C cl fp => (hm s H C cl fp).pts) (fun s H C cl fp => (hk s H C cl fp).pe) (fun s H C cl fp => (he s H C cl fp).pe) hs)
    fun σ H Q q => up_dc (fun _ _ _ z => z) hi.mono bt m1 m2 m3 q, mon_dc hi.mono bt.mg m1 m2 m3⟩
theorem ps_setDc {i : Nat} {y : Str} {py spos : Pos} {wi : TI} {g : TG} {tt : TT} {tk tv : TE} (hc : X.calm = true) (hN : X.N.Nodup) (hy : X.N[i]? = some y) (hyl : X.env.scope.names.lookup y = some .local)
    (hsw : swapsWith (.DictComp kx vx [⟨tg, iter, ifs, 0⟩] scope pos) (some (.Name y py)) spos.line X.env = pure true) (hi : PI X tg iter wi) (ok : BlkOk X.N X.env.scope scope own)
    (hg : Blk X scope fun Y => PG Y tg g) (ht : Blk X scope fun Y => PTs Y ifs tt) (hk : Blk X scope fun Y => PE Y kx tk) (he : Blk X scope fun Y => PE Y vx tv) (hs : ∀ x, foldedSetIterable iter X.env x = pure x := by intro _; rfl) :
    PS X (.Assign [.Name y py] (.DictComp kx vx [⟨tg, iter, ifs, 0⟩] scope pos) spos) (tAsg (tDc wi g tt tk tv (own.map (·.2))) (gName i)) := by
  refine ⟨fun pins s σ H D I h => ?_⟩
  rw [exec_Assign_Name_used _ _ _ _ hsw]
  refine wpAny_bind (wpAny_standAt (wpAny_bind ?_))
  show wpAny _ X.A (do let _ ← comprehension (.DictComp kx vx [⟨tg, iter, ifs, 0⟩] scope pos) scope X.env (firstIterPos [⟨tg, iter, ifs, 0⟩] pos) newDict false (eval iter X.env) (some (assign (.Name y py) X.env))) _ _ s
  have h : tDc wi g tt tk tv (own.map (·.2)) σ H (fun x H1 => gName i x σ H1 D.nx) := h
  refine wpAny_bind (thn (dc_core (Qf := fun _ s' => SP X pins D .next s') hc hN I hi ok hg ht hk he hs h fun L C s' m H' I' q hn f => ?_) fun _ s' hq => wpAny_pure (wpAny_pure hq))
  show wpAny _ _ (assign (.Name y py) X.env (.ref L)) _ _ _
  refine wpAny_assign_Name (store_ok2 (v := V.ref L) I' hN hy (.inl hyl) rfl (fun s2 I2 ⟨a, sb, ha⟩ => ?_) (.inr hyl))
  obtain ⟨f0, f1, f2, f3, f4, f5⟩ := f
  have haC : C ≠ a := by
    rcases ha with z | z
    · rw [z]; exact f1
    · exact fun e => f4 y a z e.symm
  refine ⟨m, hn.sameBut sb haC, fun h3 sb3 => ?_⟩
  exact ⟨_, H', I2.turned (t' := s2.toks) (fun b o hb e => (sb3.2 b hb).trans e) f0 f1 f3 f4 f5, q⟩
theorem ms_setDc {tt : TG} {i : Nat} {y : Str} {py spos : Pos} (hc : X.calm = true) (hN : X.N.Nodup) (hi : MI X B tg iter mi) (ok : BlkOk X.N X.env.scope scope own) (bt : BT X.K (own.map (·.2)) tt g)
    (hg : Blk X scope fun Y => PG Y tg tt) (hm : Blk X scope fun Y => MTs Y B ifs t) (hk : Blk X scope fun Y => ME Y B kx mk) (he : Blk X scope fun Y => ME Y B vx mv) (hy : X.N[i]? = some y := by rfl) (hyl : X.env.scope.names.lookup y = some .local := by rfl)
    (hsw : swapsWith (.DictComp kx vx [⟨tg, iter, ifs, 0⟩] scope pos) (some (.Name y py)) spos.line X.env = pure true := by rfl) (hs : ∀ x, foldedSetIterable iter X.env x = pure x := by intro _; rfl) :
    MS X B (.Assign [.Name y py] (.DictComp kx vx [⟨tg, iter, ifs, 0⟩] scope pos) spos) (mAsg (mDc mi g t mk mv (own.map (·.2))) (gNm i)) := by
  have m1 : MonT t := (hm X.s_0 (fun _ => none) 0 [] []).mono
  have m2 : MonE mk := (hk X.s_0 (fun _ => none) 0 [] []).mono
  have m3 : MonE mv := (he X.s_0 (fun _ => none) 0 [] []).mono
  have m4 := mon_dc (vs := own.map (·.2)) hi.mono bt.mg m1 m2 m3
  refine ⟨ps_imp (ps_setDc (wi := wiOf X B mi) (tt := upT X.K X.prog X.w B t) (tk := up X.K X.prog X.w B mk) (tv := up X.K X.prog X.w B mv) hc hN hy hyl hsw hi.pi ok hg (fun s H C cl fp => (hm s H C cl fp).pts) (fun s H C cl fp => (hk s H C cl fp).pe) (fun s H C cl fp => (he s H C cl fp).pe) hs)
    fun D σ H q => ?_, fun A B env S l q => m4 _ _ _ _ (fun d S1 q => l.nx _ _ q) q⟩
  obtain ⟨lB, env, S, r0, z0, q⟩ := q
  refine up_dc (B := B) (mi := mi) (g := g) (t := t) (mk := mk) (mv := mv) (fun _ _ _ z => z) hi.mono bt m1 m2 m3 ⟨lB, env, S, r0, z0, m4 _ _ _ _ (fun d S1 q v H1 l z dv => ?_) q⟩
  exact q _ H1 l ((r0.le l).set dv i) z
end
/-! ### new instances -/
section
variable {X : Cx} {B : Hp} {W : XW} {k : Nat} {f C : Addr} {fd : FuncData} {ps : List Str} {x : Str} {p pos : Pos} {e : Expr} {es : List Expr} {ma : AM}
theorem run_makeS {CX : CXT} {sp : Sp} {E : XK} {pins : List (Addr × Obj)} {σ : L2.St} {H : Hp} {s : Shared} {Q : VK} {us : List Value} {vs : List V} (M : Mk X.K C f) (F : FnOk X.prog X.w X.K X.mg X.base CX k f fd ps sp) (hr : Room (k + 1) X.A) (hb : Binds X.K fd ps [])
    (hx : PassesAt CX X σ E) (I : Inv X pins σ H s) (r : Vals vs us)
    (h : ∀ x dx, H x = none → H dx = none → dx ≠ x → sp (.ref x :: vs) (upd (upd H dx (.own x)) x (.ins C dx [])) (fun v H2 => v = .non ∧ Q (.ref x) H2) E) :
    wpAny (model X.prog X.w) X.A (call (.ref C) us) (EP X pins σ Q) X.xe s := by
  have hq := h (s.heap.objs.size + 1) s.heap.objs.size (I.hok.fresh (Nat.le_succ _)) (I.hok.fresh (Nat.le_refl _)) (Nat.ne_of_lt (Nat.lt_succ_self _))
  have I2 := Inv.made (C := C) I
  have r2 : Vals (V.ref (s.heap.objs.size + 1) :: vs) (Value.ref (s.heap.objs.size + 1) :: us) := .cons rfl r
  have hl : (Value.ref (s.heap.objs.size + 1) :: us).length = ps.length := by
    have e := r2.length
    rw [F.len _ _ _ _ hq] at e
    exact e.symm
  have hl' : ((Value.ref (s.heap.objs.size + 1) :: us) ++ []).length = ps.length := by rw [List.append_nil]; exact hl
  have hbb := hb _ (Value.ref (s.heap.objs.size + 1) :: us) I2.kIn hl'
  rw [List.append_nil] at hbb
  refine wpAny_call (make_map (f := f) I.kIn M.makes M.init (beq_iff_eq.mp M.fn) (codeAny_mono (F.run _ X.stack _ _ ⟨Value.ref (s.heap.objs.size + 1) :: us, []⟩ (Value.ref (s.heap.objs.size + 1) :: us) _ _ E (hr.make C us [])
    (I2.env0.make C us []) hbb r2 hq) fun r s' hq' => ?_))
  cases r with
  | error e => exact hx pins _ _ e s' I2 hq'
  | ok fl =>
    cases fl with
    | ret u =>
      obtain ⟨v, H', I3, rv, ev, q3⟩ := I2.after hq'
      subst ev
      exact ⟨rv, ⟨V.ref (s.heap.objs.size + 1), H', I3, rfl, q3⟩⟩
    | next => exact False.elim hq'
    | brk => exact False.elim hq'
    | cont => exact False.elim hq'
/-- C(..) -/
def mMake (C : Addr) (sp : SpD) (W : XW) (m : AM) : EM := fun env S Q => m env S fun ds S1 => ∀ p, S1 p = none → sp (.ref p :: ds) (put S1 p (.ins C [])) (fun v S2 => v = .non ∧ Q (.ref p) S2) fun c fs S' => W c fs env S'
theorem mon_make {sp : SpD} {m : AM} (hs : MonSp sp) (hm : MonA m) : MonE (mMake C sp W m) := fun env S Q Q' i q => hm env S _ _ (fun ds S1 q p hp => hs _ _ _ _ _ _ (fun d S q => ⟨q.1, i _ _ q.2⟩) (fun _ _ _ h => h) (q p hp)) q
theorem up_make {sp : SpD} (hs : MonSp sp) {K : PySem.W.Frag} {P : Program} {w : World} {env : Slo} {σ : L2.St} {H H1 : Hp} {S1 : Sto} {ds : List D} {vs : List V} {Q : VK} (lB : Le B H) (r0 : EnvR K H env σ) (l1 : Le H H1) (z1 : Rp K P w S1 H1) (d1 : DVs K H1 ds vs)
    (q : ∀ p, S1 p = none → sp (.ref p :: ds) (put S1 p (.ins C [])) (fun v S2 => v = .non ∧ dnE K P w H Q (.ref p) S2) fun c fs S' => W c fs env S') (x dx : Addr) (hx : H1 x = none) (hdx : H1 dx = none) (hne : dx ≠ x) :
    spOf K P w sp (.ref x :: vs) (upd (upd H1 dx (.own x)) x (.ins C dx [])) (fun v H2 => v = .non ∧ Q (.ref x) H2) (WE (upW K P w B W) σ) := by
  have hx2 : upd H1 dx (.own x) x = none := by rw [upd_ne (Ne.symm hne)]; exact hx
  have l2 : Le H1 (upd H1 dx (.own x)) := Le.new hdx
  have l3 : Le (upd H1 dx (.own x)) (upd (upd H1 dx (.own x)) x (.ins C dx [])) := Le.new hx2
  have l13 := l2.trans l3
  have z3 : Rp K P w (put S1 x (.ins C [])) (upd (upd H1 dx (.own x)) x (.ins C dx [])) := (z1.more hdx).new (o := .ins C []) hx2 ⟨dx, [], upd_same, .nil⟩
  refine ⟨.ref x :: ds, _, .cons (.ref x) (d1.le l13), z3, hs _ _ _ _ _ _ (fun d S2 q v H2 l z dv => ?_) (fun c fs S' hW dd H' l z xx => ?_) (q x (z1.free hx))⟩
  · obtain ⟨rfl, q⟩ := q
    cases dv
    exact ⟨rfl, q _ H2 ((l1.trans l13).trans l) z (.ref x)⟩
  · exact ⟨lB.trans ((l1.trans l13).trans l), env, S', fs, r0.le ((l1.trans l13).trans l), z, xx, hW⟩
theorem me_make {sp : SpD} (M : Mk X.K C f) (F : Fd X.prog X.w X.K X.mg X.base k f sp) (hr : Room (k + 1) X.A) (tk : Tk X B W) (hm : X.mg x = some (.ref C)) (ha : MA X B (e :: es) ma) (hg : Gl X x := by rfl)
    (hdb : (x == ("__debug__" : Str)) = false := by decide) (he : starEach (e :: es) X.env = (false, eval e X.env) :: starEach es X.env := by rfl) (hpl : (backTo pos (starEach es X.env)).any (·.1) = false := by rfl) :
    ME X B (.Call (.Name x p) (e :: es) [] pos) (mMake C sp W ma) := by
  obtain ⟨fd, ps, F1, b⟩ := F.ex
  refine ⟨⟨fun pins s σ H Q I h => ?_⟩, mon_make F.mono ha.mono⟩
  obtain ⟨lB, env, S, r0, z0, q⟩ := h
  refine wpAny_Call_Name_kw (ld_glob I hg hm ?_ hdb)
  refine PySem.W.callWith_K (h₀ := X.base) I.ok.mod.kin M.kp (thn (ha.pa.run pos pins s σ H (fun vs H1 => ∀ x dx, H1 x = none → H1 dx = none → dx ≠ x → spOf X.K X.prog X.w sp (.ref x :: vs) (upd (upd H1 dx (.own x)) x (.ins C dx [])) (fun v H2 => v = .non ∧ Q (.ref x) H2) (WE (upW X.K X.prog X.w B W) σ)) I ⟨lB, env, S, r0, z0, ha.mono env S _ _ (fun ds S1 q vs H1 l1 z1 d1 => ?_) q⟩) fun us s1 ⟨vs, H1, I1, r, q⟩ => ⟨I1.kIn, ?_⟩) he hpl
  · exact up_make F.mono lB r0 l1 z1 d1 q
  · exact run_makeS M F1 hr b (passAt tk σ) I1 r q
theorem me_make0 {sp : SpD} (M : Mk X.K C f) (F : Fd X.prog X.w X.K X.mg X.base k f sp) (hr : Room (k + 1) X.A) (tk : Tk X B W) (hm : X.mg x = some (.ref C)) (hg : Gl X x := by rfl)
    (hdb : (x == ("__debug__" : Str)) = false := by decide) : ME X B (.Call (.Name x p) [] [] pos) (mMake C sp W mNil) := by
  obtain ⟨fd, ps, F1, b⟩ := F.ex
  refine ⟨⟨fun pins s σ H Q I h => ?_⟩, mon_make F.mono fun env S Q Q' i q => i _ _ q⟩
  obtain ⟨lB, env, S, r0, z0, q⟩ := h
  refine wpAny_Call_Name_kw (ld_glob I hg hm ?_ hdb)
  exact PySem.W.callWith_K0 I.kIn M.kp (run_makeS (us := []) M F1 hr b (passAt tk σ) I .nil (up_make F.mono lB r0 (Le.refl H) z0 .nil q))
end
end DL

set_option Elab.async false
set_option linter.all false
set_option maxRecDepth 100000
set_option maxHeartbeats 4000000
/-! DL12: == of dicts. -/
namespace DL
open PySem PySem.Spec PyProof.Rows L2
def hitsD (S : Sto) (kb : List (Key × D)) : List (Key × D) → Option Bool
  | [] => some true
  | (k, v) :: r => match valD kb k with
    | none => some false
    | some u => match rs S 40 v, rs S 40 u, hitsD S kb r with
      | some p, some q, some b => some (PyData.eqv p q && b)
      | _, _, _ => none
def eqDi (S : Sto) (d e : D) : Option Bool := match d, e with
  | .ref a, .ref b => match S a, S b with
    | some (.dic ka), some (.dic kb) => if ka.length = kb.length then hitsD S kb ka else some false
    | _, _ => none
  | _, _ => none
def vEqA (g : Bool → Bool) : BM := fun d e S Q => match eqDi S d e with
  | some b => Q (.bl (g b)) S
  | none => vEqG g d e S Q
section
variable {X : Cx}
theorem hits_ok {pins : List (Addr × Obj)} {σ : L2.St} {H : Hp} {s : Shared} {S : Sto} {A : Around} (hu : A.units + 64 < cLine) (I : Inv X pins σ H s) (r : Rp X.K X.prog X.w S H) {kb : List (Key × D)} {vb : List (Key × V)} {ub : List (Key × Value)} (zb : KVs X.K H kb vb) (rb : KV vb ub) :
    ∀ {ka : List (Key × D)} {va : List (Key × V)} {ua : List (Key × Value)} {b : Bool}, KVs X.K H ka va → KV va ua → hitsD S kb ka = some b → PySem.W.KeqHits A s ub ua b := by
  intro ka
  induction ka with
  | nil =>
    intro va ua b za ra e
    cases za
    cases ra
    cases e
    exact .nil
  | cons p ka ih =>
    intro va ua b za ra e
    cases za with
    | @cons k d v _ vs h1 h2 =>
      cases ra with
      | @cons _ q _ qs h t =>
        obtain ⟨k', u⟩ := q
        obtain ⟨e1, ru⟩ := h
        have e1' : k = k' := e1
        subst e1'
        unfold hitsD at e
        have rr : RelO (valV vb k) (valueAt ub k) := rb.val k
        split at e
        · rename_i en
          cases e
          rw [(zb.val k).2 en] at rr
          exact .miss (RelO.none_of rr)
        · rename_i y ey
          obtain ⟨yv, ey1, ey2⟩ := (zb.val k).1 _ ey
          rw [ey1] at rr
          obtain ⟨w', hw, rw'⟩ := rr.some_of
          split at e
          · rename_i p' q' b' ep eq' eb
            cases e
            obtain ⟨a1, a2⟩ := rs_shaped r h1 ep
            obtain ⟨b1, b2⟩ := rs_shaped r ey2 eq'
            obtain ⟨as, r1⟩ := Dp.reads I _ _ _ a1 ru
            obtain ⟨bs, r2⟩ := Dp.reads I _ _ _ b1 rw'
            exact .hit hw (SeqAt.eqAt_reads _ _ _ _ _ _ _ _ r1 r2 (SeqAt.canLay_of_shaped a2) (SeqAt.canLay_of_shaped b2) (SeqAt.room_of_shaped a2 hu)) (ih h2 t eb)
          · cases e
theorem eqDi_ok {S : Sto} {d e : D} {b : Bool} (h : eqDi S d e = some b) : ∃ a a' ka kb, d = .ref a ∧ e = .ref a' ∧ S a = some (.dic ka) ∧ S a' = some (.dic kb) ∧ ((ka.length = kb.length ∧ hitsD S kb ka = some b) ∨ (ka.length ≠ kb.length ∧ b = false)) := by
  unfold eqDi at h
  split at h
  · split at h
    · rename_i ka kb e1 e2
      refine ⟨_, _, ka, kb, rfl, rfl, e1, e2, ?_⟩
      by_cases q : ka.length = kb.length
      · rw [if_pos q] at h
        exact .inl ⟨q, h⟩
      · rw [if_neg q] at h
        exact .inr ⟨q, (Option.some.inj h).symm⟩
    · cases h
  · cases h
theorem od_eqAG {f : Value → Value → Sem Value} {g : Bool → Bool} (h0 : OpD X f (vEqG g))
    (h1 : ∀ {A : Around} {E : Value → Shared → Prop} {s : Shared} {a b : Addr} {ka kb : List (Key × Value)} {r : Bool} {Q : Value → Shared → Prop}, A.units < cLine → (a == sysModules) = false → (b == sysModules) = false → s.heap.DictOf (mixKind X.prog X.w) a ka → s.heap.DictOf (mixKind X.prog X.w) b kb →
      (ka.length = kb.length → PySem.W.KeqHits A.in1 s kb ka r) → Q (.bool (g (ka.length == kb.length && r))) s → wpAny (model X.prog X.w) A (f (.ref a) (.ref b)) Q E s) (hu : X.A.units + 65 < cLine) : OpD X f (vEqA g) := by
  refine ⟨fun pins s σ H x y v u Q I rx ry q => ?_, fun d e S Q Q' i q => ?_⟩
  · obtain ⟨d, e, S, d1, d2, r, q⟩ := q
    unfold vEqA at q
    split at q
    · rename_i b eb
      obtain ⟨a, a', ka, kb, rfl, rfl, e1, e2, hh⟩ := eqDi_ok eb
      cases d1
      cases d2
      obtain rfl : v = Value.ref a := rx
      obtain rfl : u = Value.ref a' := ry
      obtain ⟨va, f1, za⟩ := r _ _ e1
      obtain ⟨vb, f2, zb⟩ := r _ _ e2
      obtain ⟨_, ya, ua, ra, da⟩ := (show ObjOk X.prog X.w H s.heap a (.dK va) from I.hok a _ f1)
      obtain ⟨_, yb, ub, rb, db⟩ := (show ObjOk X.prog X.w H s.heap a' (.dK vb) from I.hok a' _ f2)
      have la : ka.length = ua.length := za.length.trans ra.length
      have lb : kb.length = ub.length := zb.length.trans rb.length
      refine h1 (r := b) (by omega) ya yb da db (fun hl => ?_) ?_
      · rcases hh with ⟨_, hh⟩ | ⟨hn, _⟩
        · exact hits_ok (by show X.A.units + 1 + 64 < cLine; omega) I r zb rb za ra hh
        · exact absurd (by omega) hn
      · refine fin_bl I (dn_same q r (.bl _)) ?_
        rcases hh with ⟨hl, _⟩ | ⟨hn, rfl⟩
        · have : (ua.length == ub.length) = true := by simp; omega
          rw [this]; rfl
        · rw [Bool.and_false]
    · exact h0.op pins s σ H x y v u Q I rx ry ⟨d, e, S, d1, d2, r, q⟩
  · unfold vEqA at q ⊢
    split at q
    · exact i _ _ q
    · exact h0.mono _ _ _ _ _ i q
theorem od_eqA (hu : X.A.units + 65 < cLine) : OpD X (compareOp .Eq) (vEqA fun b => b) := od_eqAG (od_eq (by omega)) (fun hu a b c d e q => PySem.W.keq_eq a b c d hu e q) hu
theorem od_neA (hu : X.A.units + 65 < cLine) : OpD X (compareOp .NotEq) (vEqA fun b => !b) := od_eqAG (od_ne (by omega)) (fun hu a b c d e q => PySem.W.keq_ne a b c d hu e q) hu
end
end DL

set_option Elab.async false
set_option linter.all false
set_option maxRecDepth 100000
set_option maxHeartbeats 4000000
/-! DL13: short words for what a program prints; the text's facts. -/
namespace DL
open PySem PySem.Spec PyProof.Rows L2
theorem hu65 {k : Nat} {A : Around} (hr : Room k A) : A.units + 65 < cLine := by have := hr.un; omega
theorem hu64 {k : Nat} {A : Around} (hr : Room k A) : A.units + 64 < cLine := by have := hr.un; omega
theorem hu1 {k : Nat} {A : Around} (hr : Room k A) : A.units + 1 < cLine := by have := hr.un; omega
abbrev vSub : BM := vI0 fun i j => .int (i - j)
abbrev vMod : BM := vI (fun _ j => 0 < j) fun i j => .int (i % j)
abbrev vFdiv : BM := vI CDivW fun i j => .int (i / j)
abbrev vPow : BM := vI CPow fun i j => .int (i ^ j.toNat)
abbrev vAbs : CM := vI1 fun i => .int (if i < 0 then -i else i)
abbrev vInt : CM := vI1 fun i => .int i
abbrev vMax : CM := vI2 fun i j => .int (if j > i then j else i)
abbrev vMin : CM := vI2 fun i j => .int (if j < i then j else i)
section
variable {X : Cx} {B : Hp} {pos : Pos}
theorem me_ty {x : Str} {n : String} (hm : X.mg x = none) (hv : bootBuiltins x = some (.type n)) (hg : Gl X x := by rfl) (hn : x ≠ "__name__" := by decide) (hd : (x == ("__debug__" : Str)) = false := by decide) : ME X B (.Name x pos) (mC (.ty n)) :=
  me_C (pe_bltn (v := .ty n) hg hm hv rfl hn hd) fun _ => .ty n
end
/-- no promise -/
theorem fd_no {P : Program} {w : World} {K : PySem.W.Frag} {mg : Str → Option Value} {base : Heap} {k : Nat} {f : Addr} {fd : FuncData} {ps : List Str} (b : Binds K fd ps []) (kp : PySem.W.keepIn K (.ref f) = true) : Fd P w K mg base k f (fun _ _ _ _ => False) :=
  ⟨⟨fd, ps, ⟨fun vs H Q E h => (by obtain ⟨_, _, _, _, z⟩ := h; exact z.elim), fun A outer s H args us vs Q E _ _ _ _ h => (by obtain ⟨_, _, _, _, z⟩ := h; exact z.elim)⟩, b⟩, kp, fun _ _ _ _ _ _ _ _ h => h⟩
/-! ### the text's facts -/
structure Tx (fa : List He.Fa) (fn : List He.DefD) (K : PySem.W.Frag) (mg : Str → Option Value) : Prop where
  ex : ∃ h : Heap, K.In h ∧ h.Ns mainGlobals mg ∧ He.SaysD fa fn K
section
variable {fa : List He.Fa} {fn : List He.DefD} {K : PySem.W.Frag} {mg : Str → Option Value}
theorem Tx.glo (T : Tx fa fn K mg) (i : Nat) {x : Str} (h : fa[i]? = some (.glo x) := by rfl) : mg x = some (.ref (He.ga K x)) := by
  obtain ⟨_, X, G, c⟩ := T.ex
  exact He.glo_ok X G (c.fact i h)
theorem Tx.free (T : Tx fa fn K mg) (i : Nat) {x : Str} (h : fa[i]? = some (.free x) := by rfl) : mg x = none := by
  obtain ⟨_, X, G, c⟩ := T.ex
  exact He.free_ok X G (c.fact i h)
theorem Tx.int (T : Tx fa fn K mg) (i : Nat) {x : Str} {n : Int} (h : fa[i]? = some (.int x n) := by rfl) : ∃ t, mg x = some (.int n t) := by
  obtain ⟨_, X, G, c⟩ := T.ex
  exact He.int_ok X G (c.fact i h)
theorem Tx.cls (T : Tx fa fn K mg) (i : Nat) {x : Str} (h : fa[i]? = some (.cls x) := by rfl) : Cls K (He.ga K x) := by
  obtain ⟨_, X, G, c⟩ := T.ex
  exact He.cls_ok (c.fact i h)
theorem Tx.noat (T : Tx fa fn K mg) (i : Nat) {x f : Str} (h : fa[i]? = some (.noat x f) := by rfl) : NoAttr K (He.ga K x) f := by
  obtain ⟨_, X, G, c⟩ := T.ex
  exact He.noat_ok (c.fact i h)
theorem Tx.meth (T : Tx fa fn K mg) (i : Nat) {x m : Str} (h : fa[i]? = some (.meth x m) := by rfl) : Meth K (He.ga K x) m (He.ma K (He.ga K x) m) := by
  obtain ⟨_, X, G, c⟩ := T.ex
  exact He.meth_ok (c.fact i h)
theorem Tx.mkr (T : Tx fa fn K mg) (i : Nat) {x : Str} (h : fa[i]? = some (.mkr x) := by rfl) : Mk K (He.ga K x) (He.ma K (He.ga K x) "__init__") := by
  obtain ⟨_, X, G, c⟩ := T.ex
  exact He.mkr_ok (c.fact i h)
theorem Tx.df (T : Tx fa fn K mg) (i : Nat) {d : He.DefD} (h : fn[i]? = some d := by rfl) : ∃ fd, FunD K d.name d.qual d.params d.body d.scope (d.dvs K) (d.kws K) (He.fAd K d.at_) fd := by
  obtain ⟨_, X, G, c⟩ := T.ex
  exact c.def_ i h
end
end DL

set_option Elab.async false
set_option linter.all false
set_option maxRecDepth 100000
set_option maxHeartbeats 4000000
/-! DL14: the mirrors walked step by step: each rule asks what is wanted ahead of a construct. -/
namespace DL
open PySem PySem.Spec PyProof.Rows L2
section
variable {env : Slo} {S : Sto} {Q : DQ} {A : Fin} {m n : SM} {me mf mg' ma mb : EM} {g : GM} {t u : TM} {r : BM} {c : CM} {ms : AM} {d e : D} {TQ : Bool → Sto → Prop} {AQ : List D → Sto → Prop} {a : Addr} {x : D} {i j k : Nat} {K : PySem.W.Frag} {W : XW} {sp : SpD} {C : Addr} {f : Str}
/-! statements -/
theorem s_seq (h : m { A with nx := n A } env S) : mSeq m n A env S := h
def kAsg (g : GM) (env : Slo) (A : Fin) : DQ := fun d S1 => g d env S1 A.nx
theorem s_asg (h : me env S (kAsg g env A)) : mAsg me g A env S := h
theorem s_kAsgN (h : A.nx (env.set i (some d)) S) : kAsg (gNm i) env A d S := h
theorem s_kAsg (h : g d env S A.nx) : kAsg g env A d S := h
def kIf (m n : SM) (A : Fin) (env : Slo) : Bool → Sto → Prop := fun b S1 => match b with
  | true => m A env S1
  | false => n A env S1
theorem s_if (h : t env S (kIf m n A env)) : mIf t m n A env S := h
theorem s_kT (h : m A env S) : kIf m n A env true S := h
theorem s_kF (h : n A env S) : kIf m n A env false S := h
theorem s_ifD {p : Prop} {_ : Decidable p} (h1 : p → m A env S) (h2 : ¬ p → n A env S) : kIf m n A env (decide p) S := by
  by_cases q : p
  · rw [decide_eq_true q]; exact h1 q
  · rw [decide_eq_false q]; exact h2 q
theorem s_ifB {b : Bool} (h1 : b = true → m A env S) (h2 : b = false → n A env S) : kIf m n A env b S := by
  cases b
  · exact h2 rfl
  · exact h1 rfl
theorem s_nx (h : A.nx env S) : mNx A env S := h
theorem s_brk (h : A.bk env S) : mBrk A env S := h
theorem s_cnt (h : A.ct env S) : mCnt A env S := h
theorem s_ret (h : me env S A.rt) : mRet me A env S := h
theorem s_retN (h : A.rt .non S) : mRetN A env S := h
def kDrop (env : Slo) (A : Fin) : DQ := fun _ S1 => A.nx env S1
theorem s_drop (h : me env S (kDrop env A)) : mDrop me A env S := h
theorem s_kDrop (h : A.nx env S) : kDrop env A d S := h
def kAug1 (i : Nat) (d : D) (r : BM) (env : Slo) (A : Fin) : DQ := fun y S1 => r d y S1 fun z S2 => A.nx (env.set i (some z)) S2
theorem s_aug (e0 : env[i]? = some (some d)) (h : me env S (kAug1 i d r env A)) : mAug i me r A env S := by
  unfold mAug
  rw [e0]
  exact h
def kAug2 (i : Nat) (env : Slo) (A : Fin) : DQ := fun z S2 => A.nx (env.set i (some z)) S2
theorem s_kAug1 (h : r d x S (kAug2 i env A)) : kAug1 i d r env A x S := h
theorem s_kAug2 (h : A.nx (env.set i (some d)) S) : kAug2 i env A d S := h
/-- o[i] op= e, o a list, the place from the front -/
def kAs3 (a : Addr) (i : Int) (env : Slo) (A : Fin) : DQ := fun z S5 => match setD S5 (.ref a) (.int i) z with
  | some S6 => A.nx env S6
  | none => False
def kAs2 (a : Addr) (i : Int) (x : D) (r : BM) (env : Slo) (A : Fin) : DQ := fun y S4 => r x y S4 (kAs3 a i env A)
def kAs1 (a : Addr) (i : Int) (me : EM) (r : BM) (env : Slo) (A : Fin) : DQ := fun x S3 => me env S3 (kAs2 a i x r env A)
theorem s_augS {mo mi : EM} (h : mo env S fun o S1 => mi env S1 fun i S2 => (match o with
  | .ref _ => True
  | _ => False) ∧ (match i with
  | .int k => 0 ≤ k
  | _ => True) ∧ vIx o i S2 fun x S3 => me env S3 fun y S4 => r x y S4 fun z S5 => match setD S5 o i z with
    | some S6 => A.nx env S6
    | none => False) : mAugS mo mi me r A env S := h
/-- the usual case: a name and a number -/
theorem s_augSN {v : Nat} {z : Int} (e0 : env[v]? = some (some (.ref a))) (hz : 0 ≤ z) (h : vIx (.ref a) (.int z) S (kAs1 a z me r env A)) : mAugS (mVar v) (mC (.int z)) me r A env S := by
  unfold mAugS mVar mC
  rw [e0]
  exact ⟨trivial, hz, h⟩
theorem s_kAs1 {z : Int} (h : me env S (kAs2 a z x r env A)) : kAs1 a z me r env A x S := h
theorem s_kAs2 {z : Int} (h : r d x S (kAs3 a z env A)) : kAs2 a z d r env A x S := h
theorem s_kAs3 {z : Int} {xs : List D} (e0 : S a = some (.lst xs)) (ei : ixN xs.length z = some j) (h : A.nx env (put S a (.lst (xs.set j d)))) : kAs3 a z env A d S := by
  unfold kAs3 setD
  simp only [e0, ei]
  exact h
/-! for -/
def kFor (g : GM) (m : SM) (A : Fin) (env : Slo) : List D → (Sto → Prop) → Sto → Prop := fun xs G S1 => forL g m G A xs env S1
theorem s_for {mi : IM} (h : mi env S (kFor g m A env)) : mFor mi g m A env S := h
theorem s_kFor {xs : List D} {G : Sto → Prop} (h : forL g m G A xs env S) : kFor g m A env xs G S := h
def kSeq (R : List D → (Sto → Prop) → Sto → Prop) : DQ := fun d S1 => match d with
  | .tp _ xs => R xs (fun _ => True) S1
  | .rol xs => R xs (fun _ => True) S1
  | .str x => R (sgnD x) (fun _ => True) S1
  | .ref a => match S1 a with
    | some (.lst xs) => R xs (fun S => S a = some (.lst xs)) S1
    | _ => False
  | _ => False
variable {R : List D → (Sto → Prop) → Sto → Prop} {xs ys : List D} {fl fl' : Bool}
theorem s_iSeq (h : me env S (kSeq R)) : iSeq me env S R := h
theorem s_kSeqT (h : R xs (fun _ => True) S) : kSeq R (.tp fl xs) S := h
theorem s_kSeqR (h : R xs (fun _ => True) S) : kSeq R (.rol xs) S := h
theorem s_kSeqS {x : Str} (h : R (sgnD x) (fun _ => True) S) : kSeq R (.str x) S := h
theorem s_kSeqL (e0 : S a = some (.lst xs)) (h : R xs (fun S => S a = some (.lst xs)) S) : kSeq R (.ref a) S := by
  unfold kSeq
  simp only [e0]
  exact h
def kR1 (R : List D → (Sto → Prop) → Sto → Prop) : List D → Sto → Prop := fun ds S1 => match ds with
  | [.int j] => -(2 ^ 62) ≤ j ∧ j < 2 ^ 62 ∧ R (rngD 0 j.toNat) (fun _ => True) S1
  | _ => False
theorem s_iR1 (h : ms env S (kR1 R)) : iRange1 ms env S R := h
theorem s_kR1 {j : Int} (h1 : -(2 ^ 62) ≤ j) (h2 : j < 2 ^ 62) (h : R (rngD 0 j.toNat) (fun _ => True) S) : kR1 R [.int j] S := ⟨h1, h2, h⟩
def kEn (R : List D → (Sto → Prop) → Sto → Prop) : List D → Sto → Prop := fun ds S1 => match ds with
  | [.tp _ xs] => R (numD 0 xs) (fun _ => True) S1
  | [.rol xs] => R (numD 0 xs) (fun _ => True) S1
  | [.ref a] => match S1 a with
    | some (.lst xs) => R (numD 0 xs) (fun S => S a = some (.lst xs)) S1
    | _ => False
  | _ => False
theorem s_iEn (h : ms env S (kEn R)) : iEnumD ms env S R := h
theorem s_kEnT (h : R (numD 0 xs) (fun _ => True) S) : kEn R [.tp fl xs] S := h
theorem s_kEnL (e0 : S a = some (.lst xs)) (h : R (numD 0 xs) (fun S => S a = some (.lst xs)) S) : kEn R [.ref a] S := by
  unfold kEn
  simp only [e0]
  exact h
def kZi (R : List D → (Sto → Prop) → Sto → Prop) : List D → Sto → Prop := fun ds S1 => match ds with
  | [.tp _ xs, .tp _ ys] => R (List.zipWith (fun x y => .tup [x, y]) xs ys) (fun _ => True) S1
  | _ => False
theorem s_iZi (h : ms env S (kZi R)) : iZipD ms env S R := h
theorem s_kZi (h : R (List.zipWith (fun x y => .tup [x, y]) xs ys) (fun _ => True) S) : kZi R [.tp fl xs, .tp fl' ys] S := h
/-! targets -/
variable {NQ : Slo → Sto → Prop} {gs : GsM}
theorem s_gNm (h : NQ (env.set i (some d)) S) : gNm i d env S NQ := h
theorem s_gT (hl : xs.length = k) (h : gs xs env S NQ) : gT k gs (.tp fl xs) env S NQ := ⟨hl, h⟩
def kgC (gs : GsM) (xs : List D) (NQ : Slo → Sto → Prop) : Slo → Sto → Prop := fun env' S' => gs xs env' S' NQ
theorem s_gC (h : g d env S (kgC gs xs NQ)) : gC g gs (d :: xs) env S NQ := h
theorem s_kgC (h : gs xs env S NQ) : kgC gs xs NQ env S := h
theorem s_gN (h : NQ env S) : gN [] env S NQ := h
def kgI2 (d o : D) (env : Slo) (NQ : Slo → Sto → Prop) : DQ := fun i S2 => match setD S2 o i d with
  | some S3 => NQ env S3
  | none => False
def kgI1 (d : D) (mi : EM) (env : Slo) (NQ : Slo → Sto → Prop) : DQ := fun o S1 => mi env S1 (kgI2 d o env NQ)
theorem s_gIx {mo mi : EM} (h : mo env S (kgI1 d mi env NQ)) : gIx mo mi d env S NQ := h
theorem s_kgI1 {mi : EM} (h : mi env S (kgI2 d e env NQ)) : kgI1 d mi env NQ e S := h
theorem s_kgIL {z : Int} (e0 : S a = some (.lst xs)) (ei : ixN xs.length z = some j) (h : NQ env (put S a (.lst (xs.set j d)))) : kgI2 d (.ref a) env NQ (.int z) S := by
  unfold kgI2 setD
  simp only [e0, ei]
  exact h
theorem s_kgID {kvs : List (Key × D)} {kk : Key} (e0 : S a = some (.dic kvs)) (ek : keyD e = some kk) (hl : kvs.length < sizeLine) (h : NQ env (put S a (.dic (putD kvs kk d)))) : kgI2 d (.ref a) env NQ e S := by
  unfold kgI2 setD
  simp only [e0, ek, hl, if_true]
  exact h
/-! values -/
theorem s_var (e0 : env[i]? = some (some d)) (h : Q d S) : mVar i env S Q := by
  unfold mVar
  rw [e0]
  exact h
theorem s_C (h : Q d S) : mC d env S Q := h
def kOp2 (r : BM) (x : D) (Q : DQ) : DQ := fun y S2 => r x y S2 Q
def kOp1 (r : BM) (mb : EM) (env : Slo) (Q : DQ) : DQ := fun x S1 => mb env S1 (kOp2 r x Q)
theorem s_op (h : ma env S (kOp1 r mb env Q)) : mOp r ma mb env S Q := h
theorem s_kOp1 (h : mb env S (kOp2 r d Q)) : kOp1 r mb env Q d S := h
theorem s_kOp2 (h : r d e S Q) : kOp2 r d Q e S := h
theorem s_B (h : me env S (kB TQ)) : mB me env S TQ := h
theorem s_kB {b : Bool} (h : TQ b S) : kB TQ (.bl b) S := h
def kTru (TQ : Bool → Sto → Prop) : DQ := fun d S1 => match truD S1 d with
  | some b => TQ b S1
  | none => False
theorem s_tru (h : me env S (kTru TQ)) : mTru me env S TQ := h
theorem s_kTru {b : Bool} (e0 : truD S d = some b) (h : TQ b S) : kTru TQ d S := by
  unfold kTru
  rw [e0]
  exact h
def kAnd (u : TM) (env : Slo) (TQ : Bool → Sto → Prop) : Bool → Sto → Prop := fun c S1 => match c with
  | true => u env S1 TQ
  | false => TQ false S1
def kOr (u : TM) (env : Slo) (TQ : Bool → Sto → Prop) : Bool → Sto → Prop := fun c S1 => match c with
  | true => TQ true S1
  | false => u env S1 TQ
def kNot (TQ : Bool → Sto → Prop) : Bool → Sto → Prop := fun c S1 => TQ (!c) S1
theorem s_and (h : t env S (kAnd u env TQ)) : mAnd t u env S TQ := h
theorem s_or (h : t env S (kOr u env TQ)) : mOr t u env S TQ := h
theorem s_not (h : t env S (kNot TQ)) : mNot t env S TQ := h
theorem s_kNot {b : Bool} (h : TQ (!b) S) : kNot TQ b S := h
theorem s_kAndT (h : u env S TQ) : kAnd u env TQ true S := h
theorem s_kAndF (h : TQ false S) : kAnd u env TQ false S := h
theorem s_kOrT (h : TQ true S) : kOr u env TQ true S := h
theorem s_kOrF (h : u env S TQ) : kOr u env TQ false S := h
theorem s_kAndB {b : Bool} (h1 : b = true → u env S TQ) (h2 : b = false → TQ false S) : kAnd u env TQ b S := by
  cases b
  · exact h2 rfl
  · exact h1 rfl
theorem s_kOrB {b : Bool} (h1 : b = true → TQ true S) (h2 : b = false → u env S TQ) : kOr u env TQ b S := by
  cases b
  · exact h2 rfl
  · exact h1 rfl
def kAndV (mb : EM) (env : Slo) (Q : DQ) : Bool → Sto → Prop := fun c S1 => match c with
  | true => mb env S1 Q
  | false => Q (.bl false) S1
def kOrV (mb : EM) (env : Slo) (Q : DQ) : Bool → Sto → Prop := fun c S1 => match c with
  | true => Q (.bl true) S1
  | false => mb env S1 Q
def kNotV (Q : DQ) : Bool → Sto → Prop := fun c S1 => Q (.bl (!c)) S1
theorem s_andV (h : ma env S (kB (kAndV mb env Q))) : mAndV ma mb env S Q := h
theorem s_orV (h : ma env S (kB (kOrV mb env Q))) : mOrV ma mb env S Q := h
theorem s_notV (h : ma env S (kB (kNotV Q))) : mNotV ma env S Q := h
theorem s_kNotV {b : Bool} (h : Q (.bl (!b)) S) : kNotV Q b S := h
theorem s_kAndVT (h : mb env S Q) : kAndV mb env Q true S := h
theorem s_kAndVF (h : Q (.bl false) S) : kAndV mb env Q false S := h
theorem s_kOrVT (h : Q (.bl true) S) : kOrV mb env Q true S := h
theorem s_kOrVF (h : mb env S Q) : kOrV mb env Q false S := h
theorem s_kAndVB {b : Bool} (h1 : b = true → mb env S Q) (h2 : b = false → Q (.bl false) S) : kAndV mb env Q b S := by
  cases b
  · exact h2 rfl
  · exact h1 rfl
theorem s_kOrVB {b : Bool} (h1 : b = true → Q (.bl true) S) (h2 : b = false → mb env S Q) : kOrV mb env Q b S := by
  cases b
  · exact h2 rfl
  · exact h1 rfl
def kIfE (ma mb : EM) (env : Slo) (Q : DQ) : Bool → Sto → Prop := fun c S1 => match c with
  | true => ma env S1 Q
  | false => mb env S1 Q
theorem s_ifE (h : t env S (kIfE ma mb env Q)) : mIfE t ma mb env S Q := h
theorem s_kIfET (h : ma env S Q) : kIfE ma mb env Q true S := h
theorem s_kIfEF (h : mb env S Q) : kIfE ma mb env Q false S := h
theorem s_kIfEB {b : Bool} (h1 : b = true → ma env S Q) (h2 : b = false → mb env S Q) : kIfE ma mb env Q b S := by
  cases b
  · exact h2 rfl
  · exact h1 rfl
def kCh3 (r' : BM) (y : D) (mc : EM) (env : Slo) (Q : DQ) : Bool → Sto → Prop := fun k S3 => match k with
  | true => mc env S3 (kOp2 r' y Q)
  | false => Q (.bl false) S3
def kCh2 (r r' : BM) (x : D) (mc : EM) (env : Slo) (Q : DQ) : DQ := fun y S2 => r x y S2 (kB (kCh3 r' y mc env Q))
def kCh1 (r r' : BM) (mb mc : EM) (env : Slo) (Q : DQ) : DQ := fun x S1 => mb env S1 (kCh2 r r' x mc env Q)
variable {r' : BM} {mc : EM}
theorem s_chain (h : ma env S (kCh1 r r' mb mc env Q)) : mChain r r' ma mb mc env S Q := h
theorem s_kCh1 (h : mb env S (kCh2 r r' d mc env Q)) : kCh1 r r' mb mc env Q d S := h
theorem s_kCh2 (h : r d e S (kB (kCh3 r' e mc env Q))) : kCh2 r r' d mc env Q e S := h
theorem s_kCh3T (h : mc env S (kOp2 r' d Q)) : kCh3 r' d mc env Q true S := h
theorem s_kCh3F (h : Q (.bl false) S) : kCh3 r' d mc env Q false S := h
theorem s_kCh3B {b : Bool} (h1 : b = true → mc env S (kOp2 r' d Q)) (h2 : b = false → Q (.bl false) S) : kCh3 r' d mc env Q b S := by
  cases b
  · exact h2 rfl
  · exact h1 rfl
/-! arguments, displays, calls -/
theorem s_nil (h : AQ [] S) : mNil env S AQ := h
def kC2 (d : D) (AQ : List D → Sto → Prop) : List D → Sto → Prop := fun ds S2 => AQ (d :: ds) S2
def kC1 (ms : AM) (env : Slo) (AQ : List D → Sto → Prop) : DQ := fun d S1 => ms env S1 (kC2 d AQ)
theorem s_cons (h : me env S (kC1 ms env AQ)) : mCons me ms env S AQ := h
theorem s_kC1 (h : ms env S (kC2 d AQ)) : kC1 ms env AQ d S := h
theorem s_kC2 (h : AQ (d :: xs) S) : kC2 d AQ xs S := h
def kCB (c : CM) (Q : DQ) : List D → Sto → Prop := fun ds S1 => c ds S1 Q
theorem s_CB (h : ms env S (kCB c Q)) : mCB c ms env S Q := h
theorem s_kCB (h : c xs S Q) : kCB c Q xs S := h
def kSp (sp : SpD) (W : XW) (env : Slo) (Q : DQ) : List D → Sto → Prop := fun ds S1 => sp ds S1 Q fun c fs S' => W c fs env S'
theorem s_call (h : ms env S (kSp sp W env Q)) : mCall sp W ms env S Q := h
theorem s_kSp (h : sp xs S Q fun c fs S' => W c fs env S') : kSp sp W env Q xs S := h
def kMk (C : Addr) (sp : SpD) (W : XW) (env : Slo) (Q : DQ) : List D → Sto → Prop := fun ds S1 => ∀ p, S1 p = none → sp (.ref p :: ds) (put S1 p (.ins C [])) (fun v S2 => v = .non ∧ Q (.ref p) S2) fun c fs S' => W c fs env S'
theorem s_make (h : ms env S (kMk C sp W env Q)) : mMake C sp W ms env S Q := h
theorem s_kMk (h : ∀ p, S p = none → sp (.ref p :: xs) (put S p (.ins C [])) (fun v S2 => v = .non ∧ Q (.ref p) S2) fun c fs S' => W c fs env S') : kMk C sp W env Q xs S := h
end
section
variable {env : Slo} {S : Sto} {Q : DQ} {A : Fin} {me mo ma mb : EM} {ms : AM} {d e x : D} {AQ : List D → Sto → Prop} {a C : Addr} {K : PySem.W.Frag} {W : XW} {sp : SpD} {f : Str} {fl : Bool} {xs ys : List D} {fs : List (Str × D)} {kvs : List (Key × D)} {kk : Key}
def kTup (Q : DQ) : List D → Sto → Prop := fun ds S1 => Q (.tup ds) S1
theorem s_kTup (h : Q (.tup xs) S) : kTup Q xs S := h
def kMe2 (sp : SpD) (W : XW) (a : Addr) (env : Slo) (Q : DQ) : List D → Sto → Prop := fun ds S2 => sp (.ref a :: ds) S2 Q fun c fs S' => W c fs env S'
def kMe1 (C : Addr) (f : Str) (sp : SpD) (W : XW) (ms : AM) (env : Slo) (Q : DQ) : DQ := fun d S1 => match d with
  | .ref a => match S1 a with
    | some (.ins C' fs) => C' = C ∧ fs.lookup f = none ∧ ms env S1 fun ds S2 => sp (.ref a :: ds) S2 Q fun c fs S' => W c fs env S'
    | _ => False
  | _ => False
theorem s_meth (h : mo env S (kMe1 C f sp W ms env Q)) : mMeth C f sp W mo ms env S Q := h
theorem s_kMe1 (e0 : S a = some (.ins C fs)) (el : fs.lookup f = none) (h : ms env S (kMe2 sp W a env Q)) : kMe1 C f sp W ms env Q (.ref a) S := by
  unfold kMe1
  simp only [e0]
  exact ⟨trivial, el, h⟩
theorem s_kMe2 (h : sp (.ref a :: xs) S Q fun c fs S' => W c fs env S') : kMe2 sp W a env Q xs S := h
def kFld (K : PySem.W.Frag) (f : Str) (Q : DQ) : DQ := fun d S1 => match d with
  | .ref a => match S1 a with
    | some (.ins C fs) => match fs.lookup f with
      | some v => FOk K C f ∧ Q v S1
      | none => False
    | _ => False
  | _ => False
theorem s_fld (h : me env S (kFld K f Q)) : mFld K me f env S Q := h
theorem s_kFld (e0 : S a = some (.ins C fs)) (el : fs.lookup f = some d) (ok : FOk K C f) (h : Q d S) : kFld K f Q (.ref a) S := by
  unfold kFld
  simp only [e0, el]
  exact ⟨ok, h⟩
def kSf2 (K : PySem.W.Frag) (f : Str) (y : D) (env : Slo) (A : Fin) : DQ := fun d S2 => match d with
  | .ref a => match S2 a with
    | some (.ins C fs) => FOk K C f ∧ fs.length < 1000 ∧ A.nx env (put S2 a (.ins C (putFd f y fs)))
    | _ => False
  | _ => False
def kSf1 (K : PySem.W.Frag) (f : Str) (mo : EM) (env : Slo) (A : Fin) : DQ := fun y S1 => mo env S1 (kSf2 K f y env A)
theorem s_setF (h : me env S (kSf1 K f mo env A)) : mSetF K mo me f A env S := h
theorem s_kSf1 (h : mo env S (kSf2 K f d env A)) : kSf1 K f mo env A d S := h
theorem s_kSf2 (e0 : S a = some (.ins C fs)) (ok : FOk K C f) (hl : fs.length < 1000) (h : A.nx env (put S a (.ins C (putFd f d fs)))) : kSf2 K f d env A (.ref a) S := by
  unfold kSf2
  simp only [e0]
  exact ⟨ok, hl, h⟩
/-! subscripts -/
theorem s_ixT {z : Int} (e0 : atI xs z = some d) (h : Q d S) : vIx (.tp fl xs) (.int z) S Q := by
  unfold vIx
  simp only [e0]
  exact h
theorem s_ixR {z : Int} (e0 : atI xs z = some d) (h : Q d S) : vIx (.rol xs) (.int z) S Q := by
  unfold vIx
  simp only [e0]
  exact h
theorem s_ixS {x : Str} {z : Int} {c : Nat} (e0 : atI x.cps.toList z = some c) (h : Q (.str ⟨#[c]⟩) S) : vIx (.str x) (.int z) S Q := by
  unfold vIx
  simp only [e0]
  exact h
theorem s_ixL {z : Int} (e0 : S a = some (.lst xs)) (e1 : atI xs z = some d) (h : Q d S) : vIx (.ref a) (.int z) S Q := by
  unfold vIx
  simp only [e0, e1]
  exact h
theorem s_ixD (e0 : S a = some (.dic kvs)) (ek : keyD e = some kk) (e1 : valD kvs kk = some d) (h : Q d S) : vIx (.ref a) e S Q := by
  unfold vIx
  cases e <;> simp_all
/-! numbers -/
theorem s_addI {i j : Int} (h : Q (.int (i + j)) S) : vAdd (.int i) (.int j) S Q := h
theorem s_iaddI {i j : Int} (h : Q (.int (i + j)) S) : vIadd (.int i) (.int j) S Q := h
theorem s_sub {i j : Int} (h : Q (.int (i - j)) S) : vSub (.int i) (.int j) S Q := h
theorem s_mod {i j : Int} (hj : 0 < j) (h : Q (.int (i % j)) S) : vMod (.int i) (.int j) S Q := ⟨hj, h⟩
theorem s_fdiv {i j : Int} (hj : CDivW i j) (h : Q (.int (i / j)) S) : vFdiv (.int i) (.int j) S Q := ⟨hj, h⟩
theorem s_pow {i j : Int} (hj : CPow i j) (h : Q (.int (i ^ j.toNat)) S) : vPow (.int i) (.int j) S Q := ⟨hj, h⟩
theorem s_mulI {i j : Int} (hj : CMul i j) (h : Q (.int (i * j)) S) : vMul (.int i) (.int j) S Q := ⟨hj, h⟩
theorem s_ltI {i j : Int} (h : Q (.bl (decide (i < j))) S) : vLt (.int i) (.int j) S Q := h
theorem s_leI {i j : Int} (h : Q (.bl (decide (i ≤ j))) S) : vLe (.int i) (.int j) S Q := h
theorem s_abs {i : Int} (h : Q (.int (if i < 0 then -i else i)) S) : vAbs [.int i] S Q := h
theorem s_int {i : Int} (h : Q (.int i) S) : vInt [.int i] S Q := h
theorem s_max {i j : Int} (h : Q (.int (if j > i then j else i)) S) : vMax [.int i, .int j] S Q := h
theorem s_eqS {g : Bool → Bool} {i j : Str} (h : Q (.bl (g (decide (i = j)))) S) : vEqG g (.str i) (.str j) S Q := h
theorem s_eqI {g : Bool → Bool} {i j : Int} (h : Q (.bl (g (decide (i = j)))) S) : vEqG g (.int i) (.int j) S Q := h
theorem s_eqB {g : Bool → Bool} {i j : Bool} (h : Q (.bl (g (decide (i = j)))) S) : vEqG g (.bl i) (.bl j) S Q := h
theorem s_len {n : Nat} (e0 : lenD S d = some n) (h : Q (.int n) S) : vLen [d] S Q := by
  unfold vLen
  simp only [e0]
  exact h
theorem s_list (e0 : seqD S d = some xs) (h : ∀ p, S p = none → Q (.ref p) (put S p (.lst xs))) : vList [d] S Q := by
  unfold vList
  simp only [e0]
  exact h
theorem s_tuple (e0 : seqD S d = some xs) (h : Q (.tp (flagD d) xs) S) : vTuple [d] S Q := by
  unfold vTuple
  simp only [e0]
  exact h
theorem s_gtI {i j : Int} (h : Q (.bl (decide (j < i))) S) : vGt (.int i) (.int j) S Q := h
theorem s_geI {i j : Int} (h : Q (.bl (decide (j ≤ i))) S) : vGe (.int i) (.int j) S Q := h
theorem s_leS {i j : Str} (h : Q (.bl (!decide (j.cps.toList < i.cps.toList))) S) : vLe (.str i) (.str j) S Q := h
def kTp (Q : DQ) : List D → Sto → Prop := fun ds S1 => ds.length ≤ sizeLine ∧ Q (.tup ds) S1
def kLs (Q : DQ) : List D → Sto → Prop := fun ds S1 => ds.length ≤ sizeLine ∧ ∀ p, S1 p = none → Q (.ref p) (put S1 p (.lst ds))
theorem s_tup (h : ms env S (kTp Q)) : mTup ms env S Q := h
theorem s_kTp (hl : xs.length ≤ sizeLine) (h : Q (.tup xs) S) : kTp Q xs S := ⟨hl, h⟩
theorem s_lst (h : ms env S (kLs Q)) : mLst ms env S Q := h
theorem s_kLs (hl : xs.length ≤ sizeLine) (h : ∀ p, S p = none → Q (.ref p) (put S p (.lst xs))) : kLs Q xs S := ⟨hl, h⟩
theorem s_addS {x y : Str} (hl : x.length + y.length ≤ sizeLine) (h : Q (.str (x ++ y)) S) : vAdd (.str x) (.str y) S Q := ⟨hl, h⟩
theorem s_addT (hl : xs.length + ys.length ≤ sizeLine) (h : Q (.tup (xs ++ ys)) S) : vAdd (.tup xs) (.tup ys) S Q := ⟨rfl, hl, h⟩
theorem s_addL {b : Addr} (e0 : S a = some (.lst xs)) (e1 : S b = some (.lst ys)) (hl : xs.length + ys.length ≤ sizeLine) (h : ∀ p, S p = none → Q (.ref p) (put S p (.lst (xs ++ ys)))) : vAdd (.ref a) (.ref b) S Q := by
  unfold vAdd
  simp only [e0, e1]
  exact ⟨hl, h⟩
def kMt2 (r : MM) (d : D) (Q : DQ) : List D → Sto → Prop := fun ds S2 => r d ds S2 Q
def kMt1 (ok : D → Sto → Prop) (r : MM) (ms : AM) (env : Slo) (Q : DQ) : DQ := fun d S1 => ok d S1 ∧ ms env S1 (kMt2 r d Q)
variable {ok : D → Sto → Prop} {rm : MM}
theorem s_met (h : mo env S (kMt1 ok rm ms env Q)) : mMet ok rm mo ms env S Q := h
theorem s_kMt1L (e0 : S a = some (.lst xs)) (h : ms env S (kMt2 rm (.ref a) Q)) : kMt1 okL rm ms env Q (.ref a) S := by
  refine ⟨?_, h⟩
  unfold okL
  simp only [e0]
theorem s_kMt2 (h : rm d xs S Q) : kMt2 rm d Q xs S := h
theorem s_app (e0 : S a = some (.lst xs)) (hl : xs.length < sizeLine) (h : Q .non (put S a (.lst (xs ++ [d])))) : rApp (.ref a) [d] S Q := by
  unfold rApp
  simp only [e0]
  exact ⟨hl, h⟩
def kGt3 (d k : D) (Q : DQ) : DQ := fun z S3 => match d with
  | .ref a => match S3 a, keyD k with
    | some (.dic kvs), some kk => Q ((valD kvs kk).getD z) S3
    | _, _ => False
  | _ => False
def kGt2 (d : D) (mx : EM) (env : Slo) (Q : DQ) : DQ := fun k S2 => mx env S2 (kGt3 d k Q)
def kGt1 (mk mx : EM) (env : Slo) (Q : DQ) : DQ := fun d S1 => okDi d S1 ∧ mk env S1 (kGt2 d mx env Q)
variable {mk mx : EM}
theorem s_get2 (h : mo env S (kGt1 mk mx env Q)) : mGet2 mo mk mx env S Q := h
theorem s_kGt1 (e0 : S a = some (.dic kvs)) (h : mk env S (kGt2 (.ref a) mx env Q)) : kGt1 mk mx env Q (.ref a) S := by
  refine ⟨?_, h⟩
  unfold okDi
  simp only [e0]
theorem s_kGt2 (h : mx env S (kGt3 d e Q)) : kGt2 d mx env Q e S := h
theorem s_kGt3 (e0 : S a = some (.dic kvs)) (ek : keyD e = some kk) (h : Q ((valD kvs kk).getD d) S) : kGt3 (.ref a) e Q d S := by
  unfold kGt3
  simp only [e0, ek]
  exact h
theorem s_dnew (h : ∀ p, S p = none → Q (.ref p) (put S p (.dic []))) : mDNew env S Q := h
def kPs2 (x y : D) (PQ : List (D × D) → Sto → Prop) : List (D × D) → Sto → Prop := fun ps S3 => PQ ((x, y) :: ps) S3
def kPsV (x : D) (r : List (EM × EM)) (env : Slo) (PQ : List (D × D) → Sto → Prop) : DQ := fun y S2 => mPs r env S2 (kPs2 x y PQ)
def kPsK (mv : EM) (r : List (EM × EM)) (env : Slo) (PQ : List (D × D) → Sto → Prop) : DQ := fun x S1 => mv env S1 (kPsV x r env PQ)
variable {PQ : List (D × D) → Sto → Prop} {mps : List (EM × EM)} {ps : List (D × D)}
theorem s_psC (h : ma env S (kPsK mb mps env PQ)) : mPs ((ma, mb) :: mps) env S PQ := h
theorem s_psN (h : PQ [] S) : mPs [] env S PQ := h
theorem s_kPsK (h : mb env S (kPsV d mps env PQ)) : kPsK mb mps env PQ d S := h
theorem s_kPsV (h : mPs mps env S (kPs2 d e PQ)) : kPsV d mps env PQ e S := h
theorem s_kPs2 (h : PQ ((d, e) :: ps) S) : kPs2 d e PQ ps S := h
def kDi (p : Addr) (Q : DQ) : List (D × D) → Sto → Prop := fun ps S2 => match keyPs ps with
  | some kvs => S2 p = some (.dic []) ∧ kvs.length ≤ 15 ∧ Q (.ref p) (put S2 p (.dic (mergeD [] kvs)))
  | none => False
theorem s_disp (h : ∀ p, S p = none → mPs mps env (put S p (.dic [])) (kDi p Q)) : mDisp mps env S Q := h
theorem s_kDi (e0 : keyPs ps = some kvs) (e1 : S a = some (.dic [])) (hl : kvs.length ≤ 15) (h : Q (.ref a) (put S a (.dic (mergeD [] kvs)))) : kDi a Q ps S := by
  unfold kDi
  simp only [e0]
  exact ⟨e1, hl, h⟩
theorem s_set0 (h : ∀ p, S p = none → Q (.ref p) (put S p (.set (fun _ => false) 0))) : vSet0 [] S Q := h
theorem s_dict (e0 : S a = some (.dic kvs)) (h : ∀ p, S p = none → Q (.ref p) (put S p (.dic kvs))) : vDict [.ref a] S Q := by
  unfold vDict
  simp only [e0]
  exact h
def kAd2 (d : D) (Q : DQ) : List D → Sto → Prop := fun ds S2 => match d, ds with
  | .ref a, [y] => match S2 a, keyD y with
    | some (.set f n), some k => n + 1 < scanBound ∧ Q .non (put S2 a (.set (fun j => f j || decide (j = k)) (if f k = true then n else n + 1)))
    | _, _ => False
  | _, _ => False
def kAd1 (ms : AM) (env : Slo) (Q : DQ) : DQ := fun d S1 => okS d S1 ∧ ms env S1 (kAd2 d Q)
theorem s_add (h : mo env S (kAd1 ms env Q)) : mAdd mo ms env S Q := h
theorem s_kAd1 {fu : Key → Bool} {n : Nat} (e0 : S a = some (.set fu n)) (h : ms env S (kAd2 (.ref a) Q)) : kAd1 ms env Q (.ref a) S := by
  refine ⟨?_, h⟩
  unfold okS
  simp only [e0]
theorem s_kAd2 {fu : Key → Bool} {n : Nat} (e0 : S a = some (.set fu n)) (ek : keyD d = some kk) (hn : n + 1 < scanBound) (h : Q .non (put S a (.set (fun j => fu j || decide (j = kk)) (if fu kk = true then n else n + 1)))) : kAd2 (.ref a) Q [d] S := by
  unfold kAd2
  simp only [e0, ek]
  exact ⟨hn, h⟩
theorem s_inD {g : Bool → Bool} (e0 : S a = some (.dic kvs)) (ek : keyD d = some kk) (h : Q (.bl (g (valD kvs kk).isSome)) S) : vInG g d (.ref a) S Q := by
  unfold vInG
  simp only [e0, ek]
  exact h
theorem s_inSet {g : Bool → Bool} {fu : Key → Bool} {n : Nat} (e0 : S a = some (.set fu n)) (ek : keyD d = some kk) (h : Q (.bl (g (fu kk))) S) : vInG g d (.ref a) S Q := by
  unfold vInG
  simp only [e0, ek]
  exact h
theorem s_inL {g : Bool → Bool} {p : PyData} {qs : List PyData} (e0 : S a = some (.lst xs)) (e1 : rs S 40 d = some p) (e2 : rs S 40 (.ref a) = some (.list qs)) (h : Q (.bl (g (qs.any fun z => PyData.eqv z p))) S) : vInG g d (.ref a) S Q := by
  unfold vInG
  simp only [e0, e1, e2]
  exact h
theorem s_inT {g : Bool → Bool} {p : PyData} {qs : List PyData} (e1 : rs S 40 d = some p) (e2 : rs S 40 (.tp fl xs) = some (.tuple qs)) (h : Q (.bl (g (qs.any fun z => PyData.eqv z p))) S) : vInG g d (.tp fl xs) S Q := by
  unfold vInG
  simp only [e1, e2]
  exact h
theorem s_isN {g : Bool → Bool} (h : Q (.bl (g true)) S) : vIsG g .non .non S Q := h
theorem s_isi {ty : String} {b : String} {c : Bool} (e0 : tyD S d = some ty) (e1 : isiT ty b = some c) (h : Q (.bl c) S) : vIsi [d, .ty b] S Q := by
  unfold vIsi
  simp only [e0, e1]
  exact h
/-! slices -/
def kSl3 (d : D) (l : Option Int) (Q : DQ) : Option Int → Sto → Prop := fun h S3 => vSl d l h S3 Q
def kSl2 (d : D) (hi : OM) (env : Slo) (Q : DQ) : Option Int → Sto → Prop := fun l S2 => hi env S2 (kSl3 d l Q)
def kSl1 (lo hi : OM) (env : Slo) (Q : DQ) : DQ := fun d S1 => lo env S1 (kSl2 d hi env Q)
variable {lo hi : OM} {OQ : Option Int → Sto → Prop} {l h' : Option Int}
theorem s_sl (h : me env S (kSl1 lo hi env Q)) : mSl me lo hi env S Q := h
theorem s_kSl1 (h : lo env S (kSl2 d hi env Q)) : kSl1 lo hi env Q d S := h
theorem s_kSl2 (h : hi env S (kSl3 d l Q)) : kSl2 d hi env Q l S := h
theorem s_kSl3 (h : vSl d l h' S Q) : kSl3 d l Q h' S := h
theorem s_noP (h : OQ none S) : mNoP env S OQ := h
def kP (OQ : Option Int → Sto → Prop) : DQ := fun d S1 => match d with
  | .int i => OQ (some i) S1
  | _ => False
theorem s_P (h : me env S (kP OQ)) : mP me env S OQ := h
theorem s_kP {i : Int} (h : OQ (some i) S) : kP OQ (.int i) S := h
theorem s_slT (h : Q (.tup (cutD xs l h')) S) : vSl (.tup xs) l h' S Q := ⟨rfl, h⟩
theorem s_slR (h : ∀ p, S p = none → Q (.ref p) (put S p (.lst (cutD xs l h')))) : vSl (.rol xs) l h' S Q := h
theorem s_slL (e0 : S a = some (.lst xs)) (h : ∀ p, S p = none → Q (.ref p) (put S p (.lst (cutD xs l h')))) : vSl (.ref a) l h' S Q := by
  unfold vSl
  simp only [e0]
  exact h
/-! comprehensions -/
variable {g : GM} {t : TM} {G : Sto → Prop} {mi : IM} {vs : List Nat}
def kLc (g : GM) (t : TM) (me : EM) (vs : List Nat) (env : Slo) (Q : DQ) : List D → (Sto → Prop) → Sto → Prop := fun xs G S1 => ∀ p, S1 p = none → lcL g t me G p Q (wipeD env vs) xs (put S1 p (.lst []))
theorem s_lc (h : mi env S (kLc g t me vs env Q)) : mLc mi g t me vs env S Q := h
theorem s_kLc (h : ∀ p, S p = none → lcL g t me G p Q (wipeD env vs) xs (put S p (.lst []))) : kLc g t me vs env Q xs G S := h
def kDc (g : GM) (t : TM) (mk mb : EM) (vs : List Nat) (env : Slo) (Q : DQ) : List D → (Sto → Prop) → Sto → Prop := fun xs G S1 => ∀ p, S1 p = none → dcL g t mk mb G p Q (wipeD env vs) xs (put S1 p (.dic []))
theorem s_dc (h : mi env S (kDc g t mk mb vs env Q)) : mDc mi g t mk mb vs env S Q := h
theorem s_kDc (h : ∀ p, S p = none → dcL g t mk mb G p Q (wipeD env vs) xs (put S p (.dic []))) : kDc g t mk mb vs env Q xs G S := h
theorem s_lenL (e0 : S a = some (.lst xs)) (h : Q (.int xs.length) S) : vLen [.ref a] S Q := s_len (n := xs.length) (by unfold lenD; simp only [e0]) h
theorem s_lenD (e0 : S a = some (.dic kvs)) (h : Q (.int kvs.length) S) : vLen [.ref a] S Q := s_len (n := kvs.length) (by unfold lenD; simp only [e0]) h
theorem s_lenT (h : Q (.int xs.length) S) : vLen [.tp fl xs] S Q := h
theorem s_lenR (h : Q (.int xs.length) S) : vLen [.rol xs] S Q := h
theorem s_lenS {x : Str} (h : Q (.int x.length) S) : vLen [.str x] S Q := h
theorem s_listL (e0 : S a = some (.lst xs)) (h : ∀ p, S p = none → Q (.ref p) (put S p (.lst xs))) : vList [.ref a] S Q := s_list (by unfold seqD; simp only [e0]) h
theorem s_listT (h : ∀ p, S p = none → Q (.ref p) (put S p (.lst xs))) : vList [.tp fl xs] S Q := s_list rfl h
theorem s_listR (h : ∀ p, S p = none → Q (.ref p) (put S p (.lst xs))) : vList [.rol xs] S Q := s_list rfl h
theorem s_tupleL (e0 : S a = some (.lst xs)) (h : Q (.tup xs) S) : vTuple [.ref a] S Q := s_tuple (by unfold seqD; simp only [e0]) h
theorem s_tupleT (h : Q (.tup xs) S) : vTuple [.tup xs] S Q := s_tuple rfl h
theorem s_isiT {b : String} {c : Bool} (e1 : isiT "tuple" b = some c) (h : Q (.bl c) S) : vIsi [.tp fl xs, .ty b] S Q := s_isi rfl e1 h
theorem s_isiS {x : Str} {b : String} {c : Bool} (e1 : isiT "str" b = some c) (h : Q (.bl c) S) : vIsi [.str x, .ty b] S Q := s_isi rfl e1 h
theorem s_isiL {b : String} {c : Bool} (e0 : S a = some (.lst xs)) (e1 : isiT "list" b = some c) (h : Q (.bl c) S) : vIsi [.ref a, .ty b] S Q := s_isi (by unfold tyD; simp only [e0]) e1 h
theorem s_kTruB {TQ : Bool → Sto → Prop} {b : Bool} (h : TQ b S) : kTru TQ (.bl b) S := h
end
end DL

set_option Elab.async false
set_option linter.all false
set_option maxRecDepth 100000
set_option maxHeartbeats 4000000
/-! DL15: a method that says super().__init__(..) first. -/
namespace DL
open PySem PySem.Spec PyProof.Rows L2
/-- the names of such a method -/
structure SupScope (N P : List Str) (sc : Scope) : Prop where
  kind : sc.kind = .function
  co : sc.isCoroutine = false
  gen : sc.isGenerator = false
  nd : N.Nodup
  pre : N.take P.length = P
  par : ∀ x ∈ P, sc.names.lookup x = some .local
  nocell : ∀ y ∈ sc.names, y.2 ≠ .cell
  free : ∀ y ∈ sc.names, y.2 = .free → y.1 = "__class__"
  cls : sc.names.lookup ("__class__" : Str) = some .free
  sup : sc.names.lookup ("super" : Str) = some .globalImplicit
abbrev supEnv (qual : Str) (scope : Scope) (L f : Addr) (cd : Value) (cc : Addr) : Env := PySem.W.ksEnv qual scope L f cd cc
def cxS (P : Program) (w : World) (K : PySem.W.Frag) (mg : Str → Option Value) (base : Heap) (N : List Str) (qual : Str) (scope : Scope) (f : Addr) (cd : Value) (cc : Addr) (A : Around) (outer : List Env) (s : Shared) (H : Hp) (E : XK) : Cx where
  prog := P
  w := w
  K := K
  mg := mg
  base := base
  A := A.deeper (supEnv qual scope s.heap.objs.size f cd cc)
  N := N
  s_0 := s
  H_0 := H
  env := supEnv qual scope s.heap.objs.size f cd cc
  outer := outer
  stack := supEnv qual scope s.heap.objs.size f cd cc :: outer
  ex := []
  calm := true
  fn := fun x => !(x == ("__class__" : Str))
  pn := []
  xe := fun e s' => wpAny (model P w) (A.deeper (supEnv qual scope s.heap.objs.size f cd cc)) (leaving (supEnv qual scope s.heap.objs.size f cd cc) e) (fun _ s'' => L2.CX P w outer H s E e s'') (fun e' s'' => L2.CX P w outer H s E e' s'') s'
theorem one_look {x : Str} {c cc : Addr} (h : ([(("__class__" : Str), cc)] : List (Str × Addr)).lookup x = some c) : x = "__class__" ∧ c = cc := by
  rw [List.lookup_cons] at h
  cases q : (x == ("__class__" : Str)) with
  | true => rw [q] at h; cases h; exact ⟨beq_iff_eq.mp q, rfl⟩
  | false => rw [q] at h; cases h
theorem inv_sup {P : Program} {w : World} {K : PySem.W.Frag} {mg : Str → Option Value} {base : Heap} {N ps : List Str} {qual : Str} {scope : Scope} {f : Addr} {cd : Value} {cc : Addr} {A : Around} {outer : List Env} {s : Shared} {H : Hp} {E : XK} {us : List Value} {vs : List V} {h0 : Heap} {t0 : Nat} {v0 : Option Value} {o0 : Obj}
    (Z : SupScope N ps scope) (hd : A.handled = none) (e0 : Env0 P w K mg base A outer s H) (hl : vs.length = ps.length) (r : Vals vs us) (kc : K.lookup cc = some o0) (dc : o0.data = .cell v0)
    (hns : h0.Ns s.heap.objs.size (fun x => (ps.zip us).reverse.lookup x)) (hk : ∀ b o, s.heap.get? b = some o → h0.get? b = some o) :
    Inv (cxS P w K mg base N qual scope f cd cc A outer s H E) [] (L2.start N vs) H { s with heap := h0, toks := t0 } := by
  have hpl : ps.length ≤ N.length := by have := congrArg List.length Z.pre; rw [List.length_take] at this; omega
  obtain ⟨hb1, hb2⟩ := e0.bs cc o0 (e0.mod.kin _ _ kc)
  have no : ∀ b : Addr, b ∉ ([] : List Addr) := fun b z => by simp at z
  refine ⟨⟨e0.mod, Z.kind, rfl, rfl, Nat.le_refl _, fun x y c a b => ?_, fun y hy => ?_, fun y c a b => ?_, fun _ => hd, Around.frames_deeper e0.frames, .inr ⟨rfl, rfl⟩, fun b z => absurd z (no b), e0.bs, e0.bsz, fun b _ _ => no b, fun b z => absurd z (no b), e0.funs, e0.frf⟩,
    rfl, e0.bare, Un.kept hk, ⟨_, hns, fun i y v a b c => ?_⟩, fun y c a => ?_, e0.hok.fresh (Nat.le_refl _), fun y c a => ?_, fun p hp => ?_, e0.hok.kept hk, ?_⟩
  · rw [(one_look a).1, (one_look b).1]
  · have hy' : scope.names.lookup y = some .cell ∨ scope.names.lookup y = some .free := hy
    rcases hy' with q | q
    · exact absurd rfl (Z.nocell _ (PySem.mem_of_lookup q))
    · have := Z.free _ (PySem.mem_of_lookup q) rfl
      have ey : y = "__class__" := this
      subst ey
      exact ⟨cc, rfl⟩
  · have a' : (!(y == ("__class__" : Str))) = true := a
    rw [(one_look b).1] at a'
    simp at a'
  · have hi : i < vs.length := by
      unfold L2.start at b
      by_cases hi : i < vs.length
      · exact hi
      · rw [List.getElem?_append_right (by simpa using hi), List.getElem?_replicate] at b
        split at b <;> cases b
    have ha : vs[i]? = some v := by
      unfold L2.start at b
      rw [List.getElem?_append_left (by simpa using hi), List.getElem?_map] at b
      cases q : vs[i]? with
      | none => rw [q] at b; cases b
      | some z => rw [q] at b; cases b; rfl
    obtain ⟨u, hu, rv⟩ := r.get ha
    have hp : ps[i]? = some y := by
      rw [← Z.pre, List.getElem?_take_of_lt (by omega)]; exact a
    have ndP : ps.Nodup := by rw [← Z.pre]; exact Z.nd.sublist (List.take_sublist _ _)
    have ky := Z.par y (List.mem_of_getElem? hp)
    refine ⟨u, rv, .inl ⟨ky, ?_⟩⟩
    have q1 := bindL_get (kindOf := fun x => scope.names.lookup x) (m := fun _ => none) ndP hp hu ky
    rw [bindL_loc _ _ (fun x hx => Z.par _ (List.of_mem_zip (a := x.1) (b := x.2) hx).1)] at q1
    simpa using q1
  · obtain ⟨_, rfl⟩ := one_look a
    exact ⟨v0, o0, hk _ _ hb1, dc⟩
  · obtain ⟨_, rfl⟩ := one_look a
    exact hb2
  · exact absurd hp (by simp [cxS])
  · unfold L2.start
    show _ = N.length
    rw [List.length_append, List.length_map, List.length_replicate]
    omega
/-- super().__init__(..), self the first slot, an instance of the class at C -/
def mSup (C : Addr) (sp : SpD) (W : XW) (ma : AM) : EM := fun env S Q => mVar 0 env S fun d S1 => match d with
  | .ref a => (match S1 a with
    | some (.ins C' _) => C' = C ∧ ma env S1 fun ds S2 => sp (.ref a :: ds) S2 Q fun c fs S' => W c fs env S'
    | _ => False)
  | _ => False
theorem s_sup {C a : Addr} {sp : SpD} {W : XW} {ma : AM} {env : Slo} {S : Sto} {Q : DQ} {fs : List (Str × D)} (e0 : env[0]? = some (some (.ref a))) (e1 : S a = some (.ins C fs)) (h : ma env S (kMe2 sp W a env Q)) : mSup C sp W ma env S Q := by
  unfold mSup mVar
  simp only [e0, e1]
  exact ⟨trivial, h⟩
theorem sup_inv {C : Addr} {sp : SpD} {W : XW} {ma : AM} {env : Slo} {S : Sto} {Q : DQ} (h : mSup C sp W ma env S Q) : ∃ a fs, env[0]? = some (some (.ref a)) ∧ S a = some (.ins C fs) ∧ ma env S fun ds S2 => sp (.ref a :: ds) S2 Q fun c fs S' => W c fs env S' := by
  unfold mSup mVar at h
  split at h
  · rename_i d e0
    split at h
    · rename_i a
      split at h
      · rename_i C' fs e1
        obtain ⟨rfl, h⟩ := h
        exact ⟨a, fs, e0, e1, h⟩
      · exact h.elim
    · exact h.elim
  · exact h.elim
/-- what the text of the call asks -/
structure SupForm (env : Env) (p0 p1 pa pos pe : Pos) (e : Expr) (es : List Expr) (pl : Sem Bool) : Prop where
  hi : interactive env = false
  hs : swapsWith (.Call (.Attribute (.Call (.Name "super" p0) [] [] p1) "__init__" pa) (e :: es) [] pos) none pe.line env = pure false
  he : eval (.Call (.Attribute (.Call (.Name "super" p0) [] [] p1) "__init__" pa) (e :: es) [] pos) env = (do
      let ov ← attributeBase (.Call (.Name "super" p0) [] [] p1) "__init__" env (eval (.Call (.Name "super" p0) [] [] p1) env)
      standAt pa.atName
      let (f, first) ← holding [ov] (getMethod ov "__init__" pl)
      callWith pos f first (backTo pos (starEach (e :: es) env)) [])
  st : starEach (e :: es) env = (false, eval e env) :: starEach es env
  pl_ : (backTo pos (starEach es env)).any (·.1) = false
theorem sup_call {X : Cx} {body : List Stmt} {qual : Str} {scope : Scope} {fd fd2 : FuncData} {oc c1 x1 : Value} {od c2 x2 : Option Addr} {osl c3 x3 : Array (Option Value)} {f g cda cc C L a dx : Addr} {ps ps2 : List Str} {k : Nat} {CX : CXT} {sp : Sp} {E : L2.St → XK} {e : Expr} {es : List Expr} {t : TA} {p0 p1 pa pos pe : Pos} {ar : Arg} {pl : Sem Bool} {fvs : Array Value} {tf : Tok} {cd : ClassData}
    {σ : L2.St} {H : Hp} {s : Shared} {fs : List (Str × V)} {Q : VK}
    (I : Inv X [] σ H s) (henv : X.env = supEnv qual scope L f (.ref cda) cc) (Z : SupScope X.N ps scope)
    (lk : X.K.lookup f = some ⟨oc, od, .func fd, osl⟩) (hp : (fd.params.posonlyargs ++ fd.params.args).head? = some ar) (h0 : X.N[0]? = some ar.arg) (h1 : ar.arg ∈ ps)
    (kcode : X.K.lookup cda = some ⟨c1, c2, .fields fvs, c3⟩) (hvs : fvs[2]? = some (.str X.prog.main.file tf)) (kcell : X.K.lookup cc = some ⟨x1, x2, .cell (some (.ref C)), x3⟩)
    (kC : PySem.W.clsIn X.K C = some cd) (hsub : PySem.W.mroIn X.K C (.ref C) = some true) (hst : PySem.W.nsIn X.K cStatics "thirdparty.any" = some none)
    (hm : PySem.W.ks_superIn X.K C C "__init__" = some (some (.ref g))) (ht : PySem.W.typeIn X.K (.ref g) = some (.type "function")) (hfi : PySem.W.fnIn X.K g = true)
    (gs : X.mg "super" = none) (htop : (X.prog.main.scope.names.lookup ("super" : Str)).isSome = false) (hboot : bootBuiltins "super" = some (.type "super"))
    (es0 : σ[0]? = some (some (.ref a))) (eH : H a = some (.ins C dx fs)) (fo : SupForm X.env p0 p1 pa pos pe e es pl)
    (ha : PA X (e :: es) t) (F : FnOk X.prog X.w X.K X.mg X.base CX k g fd2 ps2 sp) (hr : Room k X.A) (b : Binds X.K fd2 ps2 []) (hx : PassesAt CX X σ (E σ)) (q : t σ H fun vs H2 => sp (.ref a :: vs) H2 Q (E σ)) :
    _root_.PySem.wpAt (model X.prog X.w) X.A (.func body X.env) (eval (.Call (.Attribute (.Call (.Name "super" p0) [] [] p1) "__init__" pa) (e :: es) [] pos) X.env) (EP X [] σ Q) X.xe s := by
  refine ks_wpAt_MethodCall ?_ fo.he
  have KX := I.kIn
  have hk : X.env.scope.kind = .function := by rw [henv]; exact Z.kind
  have ks : X.env.kindOf "super" = some .globalImplicit := by rw [henv]; exact Z.sup
  have kcl : X.env.kindOf "__class__" = some .free := by rw [henv]; exact Z.cls
  have kar : X.env.kindOf ar.arg = some .local := by rw [henv]; exact Z.par _ h1
  obtain ⟨mA, O, _, _, _, _⟩ := ins_get I.hok eH
  obtain ⟨od', J, _⟩ := O.look
  obtain ⟨ml, hns, hlk⟩ := I.loc
  obtain ⟨u, ru, lu⟩ := hlk 0 _ _ h0 es0 (.inl kar)
  cases ru
  have hml : ml ar.arg = some (.ref a) := by
    rcases lu with ⟨_, z⟩ | ⟨z, _⟩
    · exact z
    · rw [kar] at z; rcases z with z | z <;> cases z
  obtain ⟨oD, hD1, hD2⟩ : ∃ oD, s.heap.get? C = some oD ∧ oD.data = .cls cd := by
    unfold PySem.W.clsIn at kC
    split at kC
    · rename_i z; cases kC; exact ⟨_, KX _ _ z, rfl⟩
    · cases kC
  obtain ⟨mb, hb1, hb2⟩ := I.mod.blt
  have hxC : a ≠ C := PySem.W.ks_ne KX J kC
  refine ks_wpAt_super_base ks kcl (by decide) (by rw [henv]) (KX _ _ lk) rfl hp (by rw [henv]) (KX _ _ kcode) rfl hvs (by simp) htop ?_
  refine PySem.W.ks_loadName_global hk ks (Calls.loadGlobal_builtin (by rw [I.ok.glob]; exact I.mod.glob.keeps I.bk) gs (by rw [I.ok.blt]; exact hb1.keeps I.bk) ((hb2 _ (by decide +kernel)).trans hboot) ⟨rfl, ?_⟩)
  refine wpAny_loadName_free hk kcl (c := cc) (by rw [henv]; rfl) ⟨_, KX _ _ kcell, rfl⟩ ?_
  refine wpAny_loadName_local hk kar hns hml ?_
  obtain ⟨hh, gg, dd, tt, oo⟩ := s
  refine ks_wpAny_isType_cls hD1 hD2 ⟨rfl, ?_⟩
  refine ks_wpAny_call_super hD1 hD2 J.at_ J.cls (fun c z => ?_) (PySem.W.looks_mroIn KX hsub) (fun h' eso kh => ?_)
  · have no := J.no
    unfold PySem.W.notCls at no
    rw [z] at no
    cases no
  have I1 : Inv X [] σ H ⟨h', gg, dd, tt, oo⟩ := I.kept (t' := tt) kh
  have hmr : PySem.W.Looks (model X.prog X.w) h' (mroOf (.ref C)) cd.mro := (PySem.W.looks_clsIn I1.kIn kC).andThen .now
  have hal : PySem.W.alongIn X.K "__init__" ((cd.mro.dropWhile (· != .ref C)).drop 1) = some (some (.ref g)) := by
    have := hm
    unfold PySem.W.ks_superIn at this
    rw [kC] at this
    exact this
  obtain ⟨og, hg1, hg2⟩ : ∃ og, h'.get? g = some og ∧ og.cls = .type "function" := by
    have t2 : (X.K.lookup g).map (·.cls) = some (.type "function") := ht
    cases z : X.K.lookup g with
    | none => rw [z] at t2; cases t2
    | some og => rw [z] at t2; exact ⟨og, I1.kIn _ _ z, Option.some.inj t2⟩
  refine ks_wpAny_getMethod_super eso (PySem.W.looks_opaque I1.kIn hst) hmr rfl I1.kIn hal hg1 hg2 hxC (by decide) ?_
  have kp : ∀ b o, h'.get? b = some o → (h'.push (PySem.W.methodObj (.ref g) (.ref a))).get? b = some o := fun b o z => Heap.get?_push_of_some _ z
  have I2 : Inv X [] σ H ⟨h'.push (PySem.W.methodObj (.ref g) (.ref a)), gg, dd, tt + 1, oo⟩ := I1.kept (t' := tt + 1) kp
  have eq0 : (h'.push (PySem.W.methodObj (.ref g) (.ref a))).get? h'.objs.size = some (PySem.W.methodObj (.ref g) (.ref a)) := Heap.get?_push_size h' rfl
  have I3 : Inv X [(h'.objs.size, PySem.W.methodObj (.ref g) (.ref a))] σ H ⟨h'.push (PySem.W.methodObj (.ref g) (.ref a)), gg, dd, tt + 1, oo⟩ := I2.pins_of fun p hp => by
    rw [List.mem_singleton.mp hp]
    refine ⟨eq0, I1.hok.fresh (Nat.le_refl _), Nat.ne_of_gt I1.lt, I1.nofs (Nat.le_refl _), fun v z => ?_⟩
    cases z
  show wpAny _ _ (callWith pos (.ref h'.objs.size) [] (backTo pos (starEach (e :: es) X.env)) []) _ _ _
  rw [fo.st]
  have run := ha.run pos _ _ σ H _ I3 q
  rw [fo.st] at run
  refine callwith_met (X := X) (g := g) (a := a) (by show (false || (backTo pos (starEach es X.env)).any (·.1) || false) = false; rw [fo.pl_]; rfl) hfi ?_
  refine Calls.evalArgs_plain (thn run fun us s2 z => ?_)
  obtain ⟨vs, H2, I4, rv, q2⟩ := z
  have pn := I4.pin (h'.objs.size, PySem.W.methodObj (.ref g) (.ref a)) (List.mem_append_right _ (List.mem_singleton.mpr rfl))
  refine ⟨⟨pn.1, I4.kIn⟩, ?_⟩
  have I5 : Inv X [] σ H2 s2 := I4.pins_of fun p hp => absurd hp (by simp)
  refine wpAny_call (PySem.W.method_call pn.1 ?_)
  have hl : (Value.ref a :: us).length = ps2.length := by
    have := F.len _ _ _ _ q2
    rw [← this]
    simp [rv.length]
  have bb := b s2 (.ref a :: us) I5.kIn (by rw [List.append_nil]; exact hl)
  rw [List.append_nil] at bb
  refine codeAny_mono (F.run X.A X.stack s2 H2 ⟨.ref a :: us, []⟩ (.ref a :: us) (.ref a :: vs) Q (E σ) hr I5.env0 bb (.cons rfl rv) q2) fun r s' hq => ?_
  cases r with
  | error e => exact hx [] H2 s2 e s' I5 hq
  | ok fl => cases fl with
    | ret u => exact I5.after hq
    | next => exact False.elim hq
    | brk => exact False.elim hq
    | cont => exact False.elim hq
theorem ok_sup {P : Program} {w : World} {K : PySem.W.Frag} {mg : Str → Option Value} {base : Heap} {name qual : Str} {params : Arguments} {rest : List Stmt} {scope : Scope} {dV kV doc pm ct oc c1 x1 : Value} {an od c2 x2 : Option Addr} {osl c3 x3 : Array (Option Value)} {f g cda cc C : Addr} {N ps : List Str} {k n m : Nat} {sp2 : SpD} {e : Expr} {es : List Expr} {ma : AM} {mr : XW → SM} {p0 p1 pa pos pe : Pos} {ar : Arg} {pl : Sem Bool} {fvs : Array Value} {tf : Tok} {cd : ClassData}
    (lk : K.lookup f = some ⟨oc, od, .func (PySem.W.ksFn name qual params (.Expr (.Call (.Attribute (.Call (.Name "super" p0) [] [] p1) "__init__" pa) (e :: es) [] pos) pe :: rest) scope dV kV doc pm an (.ref cda) ct cc), osl⟩)
    (kp : PySem.W.keepIn K (.ref f) = true) (hcd : PySem.W.codeIn K (.ref cda) qual = true) (Z : SupScope N ps scope)
    (bi : Binds K (PySem.W.ksFn name qual params (.Expr (.Call (.Attribute (.Call (.Name "super" p0) [] [] p1) "__init__" pa) (e :: es) [] pos) pe :: rest) scope dV kV doc pm an (.ref cda) ct cc) ps [])
    (hn : ps.length = n) (hN : N.length = n + m) (hp : (params.posonlyargs ++ params.args).head? = some ar) (h0 : ps[0]? = some ar.arg)
    (kcode : K.lookup cda = some ⟨c1, c2, .fields fvs, c3⟩) (hvs : fvs[2]? = some (.str P.main.file tf)) (kcell : K.lookup cc = some ⟨x1, x2, .cell (some (.ref C)), x3⟩)
    (kC : PySem.W.clsIn K C = some cd) (hsub : PySem.W.mroIn K C (.ref C) = some true) (hst : PySem.W.nsIn K cStatics "thirdparty.any" = some none)
    (hm : PySem.W.ks_superIn K C C "__init__" = some (some (.ref g))) (ht : PySem.W.typeIn K (.ref g) = some (.type "function")) (hfi : PySem.W.fnIn K g = true)
    (gs : mg "super" = none) (htop : (P.main.scope.names.lookup ("super" : Str)).isSome = false) (hboot : bootBuiltins "super" = some (.type "super"))
    (F2 : Fd P w K mg base k g sp2) (form : ∀ L, SupForm (supEnv qual scope L f (.ref cda) cc) p0 p1 pa pos pe e es pl)
    (hb : ∀ (A : Around) (outer : List Env) (s : Shared) (H : Hp) (E : XK), Room k (A.deeper (supEnv qual scope s.heap.objs.size f (.ref cda) cc)) → ∀ (X : Cx) (eX : X = cxS P w K mg base N qual scope f (.ref cda) cc A outer s H E) (W : XW), Tk X H W → MA X H (e :: es) ma ∧ MSs X H rest (mr W)) :
    Fd P w K mg base (k + 1) f (spB n m fun W => mSeq (mDrop (mSup C sp2 W ma)) (mr W)) := by
  refine ⟨⟨_, ps, ⟨fun vs H Q E h => ?_, fun A outer s H args us vs Q E hr e0 hbind r hsp => ?_⟩, bi⟩, kp, mon_spB⟩
  · obtain ⟨ds, S0, h1, h2, Q0, E0, _, _, h3, _⟩ := h
    rw [← h1.length, h3, hn]
  obtain ⟨ds, S0, h1, h2, Q0, E0, i1, i2, h3, h4⟩ := hsp
  have hl : vs.length = ps.length := by rw [← h1.length, h3, hn]
  have KX : K.In s.heap := e0.mod.kin.keeps fun b o q => (e0.bs b o q).1
  have lim : s.heap.NoLimit := e0.mod.nolimit.keeps fun b o q => (e0.bs b o q).1
  refine ks_codeAny_call_defAt hr.depth (KX _ _ lk) rfl lim (PySem.W.codeRec_of KX hcd) rfl hbind Z.nocell (fun x hx => Z.par _ (List.of_mem_zip (a := x.1) (b := x.2) hx).1) (fun hp0 hns hk => ?_) Z.co Z.gen Z.kind
  have I0 : Inv (cxS P w K mg base N qual scope f (.ref cda) cc A outer s H E) [] (L2.start N vs) H { s with heap := hp0, toks := s.toks + (ps.zip us).length } := inv_sup Z hr.hd e0 hl r kcell rfl hns hk
  have fo := form s.heap.objs.size
  have tk0 : Takes (cxS P w K mg base N qual scope f (.ref cda) cc A outer s H E) (fun cls d _ H => E cls d H) := takes_of rfl rfl rfl rfl
  have tk : Tk (cxS P w K mg base N qual scope f (.ref cda) cc A outer s H E) H (fun c fs _ S' => E0 c fs S') := tk0.imp fun c d σ H' z => by
    obtain ⟨l, env, S', fs, _, z1, z2, z3⟩ := z
    exact i2 _ _ _ z3 d H' l z1 z2
  obtain ⟨hma, hmr⟩ := hb A outer s H E (hr.deeper _) _ rfl _ tk
  obtain ⟨a, fs, ea, eb, hq⟩ := sup_inv (show mSup C sp2 (fun c fs _ S' => E0 c fs S') ma (ds.map some ++ List.replicate m none) S0 (fun _ S1 => mr (fun c fs _ S' => E0 c fs S') { nx := fun _ S' => Q0 .non S', rt := Q0 } (ds.map some ++ List.replicate m none) S1) from h4)
  have er : EnvR K H (ds.map some ++ List.replicate m none) (L2.start N vs) := env_start h1 (by rw [h3]; exact hN)
  generalize ds.map some ++ List.replicate m none = env0 at ea hq er
  obtain ⟨v, ev, dv⟩ := er.at_ 0 _ ea
  cases dv
  obtain ⟨dx, fv, eH, kv⟩ := h2 a _ eb
  obtain ⟨fd2, ps2, F21, b2⟩ := F2.ex
  have n0 : N[0]? = some ar.arg := by
    have hps : 0 < ps.length := (List.getElem?_eq_some_iff.mp h0).1
    have q : (N.take ps.length)[0]? = N[0]? := List.getElem?_take_of_lt hps
    rw [← q, Z.pre, h0]
  have main := ks_wpAt_mono (Q' := SP (cxS P w K mg base N qual scope f (.ref cda) cc A outer s H E) [] { nx := fun _ H' => Q .non H', rt := Q }) (ks_wpAt_execs_cons (ks_wpAt_Expr_any (ks_wpAt_mono (sup_call (body := .Expr (.Call (.Attribute (.Call (.Name "super" p0) [] [] p1) "__init__" pa) (e :: es) [] pos) pe :: rest) (E := WE (upW K P w H fun c fs _ S' => E0 c fs S')) (Q := fun _ H3 => Le H H3 ∧ ∃ S3, Rp K P w S3 H3 ∧ mr (fun c fs _ S' => E0 c fs S') { nx := fun _ S' => Q0 .non S', rt := Q0 } env0 S3) I0 rfl Z lk hp n0 (List.mem_of_getElem? h0) kcode hvs kcell kC hsub hst hm ht hfi gs htop hboot ev eH fo hma.pa F21 (hr.deeper _) b2 (passAt tk _)
      ⟨Le.refl H, env0, S0, er, h2, hma.mono _ _ _ _ (fun ds2 S2 hz vs2 H2 l2 r2 d2 => ⟨.ref a :: ds2, S2, .cons (.ref a) d2, r2, F2.mono _ _ _ _ _ _ (fun d S3 hd v H3 l3 r3 _ => ⟨l2.trans l3, S3, r3, hd⟩) (fun c fs S' hW dd H' l3 r3 x => ⟨l2.trans l3, env0, S', fs, er.le (l2.trans l3), r3, x, hW⟩) hz⟩) hq⟩)
      (fun u s3 z => by
        obtain ⟨v3, H3, I3, _, l3, S3, r3, q3⟩ := z
        exact wpAt_of_wpAny (hmr.ps.run [] s3 _ H3 { nx := fun _ H' => Q .non H', rt := Q } I3 ⟨l3, env0, S3, er.le l3, r3, hmr.mono { nx := fun _ S' => Q0 .non S', rt := Q0 } _ _ _ ⟨fun e S' q σ H' l r z => i1 _ _ q _ H' (l3.trans l) z .non, fun d S' q v H' l z dv => i1 _ _ q v H' (l3.trans l) z dv, fun _ _ q => q.elim, fun _ _ q => q.elim⟩ q3⟩)) (fun _ _ z => z)) fo.hi fo.hs)) (fun _ _ z => z) (fun _ _ z => z)
  refine ks_wpAt_mono main (fun fl s' hs => ?_) (fun _ _ z => z)
  have fin : ∀ {σ' : L2.St} {H' : Hp} {v : V} {u : Value}, Inv (cxS P w K mg base N qual scope f (.ref cda) cc A outer s H E) [] σ' H' s' → RelV v u → Q v H' → CE outer P w H s Q u s' := fun J rv q => ⟨_, _, J.os, J.bare, J.base, J.hok, rv, q⟩
  cases fl with
  | ret u =>
    obtain ⟨_, _, _, J, rv, q⟩ := hs
    exact fin J rv q
  | next =>
    obtain ⟨_, _, J, q⟩ := hs
    exact fin (v := V.non) (u := Value.none) J rfl q
  | brk =>
    obtain ⟨_, _, _, q⟩ := hs
    exact q.elim
  | cont =>
    obtain ⟨_, _, _, q⟩ := hs
    exact q.elim
end DL

set_option Elab.async false
set_option linter.all false
set_option maxRecDepth 100000
set_option maxHeartbeats 4000000
/-! DL16: what the head tells of methods that say super(). -/
namespace DL
open PySem PySem.Spec PyProof.Rows L2
abbrev SuW : Type := Option (Str × Str × Arguments × FuncBody × Scope × Addr × Addr)
def suW (K : PySem.W.Frag) (f : Addr) : SuW := match K.lookup f with
  | some ⟨_, _, .func fd, _⟩ => some (fd.name, fd.qualname, fd.params, fd.body, fd.scope, fd.globals, fd.builtins)
  | _ => none
/-- the class, the class whose __init__ is meant, the method's text -/
structure SuD where
  C : Str
  B : Str
  qual : Str
  params : Arguments
  body : List Stmt
  scope : Scope
def SuD.f (d : SuD) (K : PySem.W.Frag) : Addr := He.ma K (He.ga K d.C) "__init__"
def SuD.g (d : SuD) (K : PySem.W.Frag) : Addr := He.ma K (He.ga K d.B) "__init__"
def SuD.val (d : SuD) : SuW := some ("__init__", d.qual, d.params, .stmts d.body, d.scope, mainGlobals, builtinsNs)
def cellB (K : PySem.W.Frag) (cc C : Addr) : Bool := match K.lookup cc with
  | some ⟨_, _, .cell (some (.ref a)), _⟩ => decide (a = C)
  | _ => false
def fileB (file : Str) (K : PySem.W.Frag) (cda : Addr) : Bool := match K.lookup cda with
  | some ⟨_, _, .fields vs, _⟩ => (match (vs[2]? : Option Value) with
    | some (.str z _) => decide (z = file)
    | _ => false)
  | _ => false
def closB (file : Str) (K : PySem.W.Frag) (C : Addr) (q : Str) (f : Addr) : Bool := match K.lookup f with
  | some ⟨_, _, .func fd, _⟩ => (match fd.closure, fd.code, fd.defaults with
    | [(x, cc)], .ref cda, .none => decide (x = "__class__") && (cellB K cc C && (PySem.W.codeIn K (.ref cda) q && fileB file K cda))
    | _, _, _ => false)
  | _ => false
def SuD.ok (file : Str) (K : PySem.W.Frag) (d : SuD) : Bool := PySem.W.keepIn K (.ref (d.f K)) && (closB file K (He.ga K d.C) d.qual (d.f K) && ((PySem.W.clsIn K (He.ga K d.C)).isSome && (decide (PySem.W.mroIn K (He.ga K d.C) (.ref (He.ga K d.C)) = some true) &&
  (He.eqO (PySem.W.nsIn K cStatics "thirdparty.any") (some none) && (He.eqO (PySem.W.ks_superIn K (He.ga K d.C) (He.ga K d.C) "__init__") (some (some (.ref (d.g K)))) && (PySem.W.isFn K (.ref (d.g K)) && PySem.W.fnIn K (d.g K)))))))
/-- what the rule asks -/
structure SuOk (file : Str) (K : PySem.W.Frag) (d : SuD) : Prop where
  ex : ∃ (oc : Value) (od : Option Addr) (kV doc pm : Value) (an : Option Addr) (ct : Value) (osl : Array (Option Value)) (cda cc : Addr) (c1 : Value) (c2 : Option Addr) (c3 : Array (Option Value)) (x1 : Value) (x2 : Option Addr) (x3 : Array (Option Value)) (fvs : Array Value) (tf : Tok) (cd : ClassData),
    K.lookup (d.f K) = some ⟨oc, od, .func (PySem.W.ksFn "__init__" d.qual d.params d.body d.scope .none kV doc pm an (.ref cda) ct cc), osl⟩ ∧ PySem.W.codeIn K (.ref cda) d.qual = true ∧ K.lookup cda = some ⟨c1, c2, .fields fvs, c3⟩ ∧ fvs[2]? = some (.str file tf) ∧
    K.lookup cc = some ⟨x1, x2, .cell (some (.ref (He.ga K d.C))), x3⟩ ∧ PySem.W.clsIn K (He.ga K d.C) = some cd
  kp : PySem.W.keepIn K (.ref (d.f K)) = true
  sub : PySem.W.mroIn K (He.ga K d.C) (.ref (He.ga K d.C)) = some true
  st : PySem.W.nsIn K cStatics "thirdparty.any" = some none
  hm : PySem.W.ks_superIn K (He.ga K d.C) (He.ga K d.C) "__init__" = some (some (.ref (d.g K)))
  ht : PySem.W.typeIn K (.ref (d.g K)) = some (.type "function")
  hf : PySem.W.fnIn K (d.g K) = true
theorem cellB_ok {K : PySem.W.Frag} {cc C : Addr} (h : cellB K cc C = true) : ∃ x1 x2 x3, K.lookup cc = some ⟨x1, x2, .cell (some (.ref C)), x3⟩ := by
  unfold cellB at h
  split at h
  · rename_i x1 x2 a x3 e
    have := of_decide_eq_true h
    subst this
    exact ⟨_, _, _, e⟩
  · cases h
theorem fileB_ok {file : Str} {K : PySem.W.Frag} {cda : Addr} (h : fileB file K cda = true) : ∃ c1 c2 c3 vs tf, K.lookup cda = some ⟨c1, c2, .fields vs, c3⟩ ∧ vs[2]? = some (.str file tf) := by
  unfold fileB at h
  split at h
  · rename_i c1 c2 vs c3 e
    split at h
    · rename_i z tf e2
      have := of_decide_eq_true h
      subst this
      exact ⟨_, _, _, _, _, e, e2⟩
    · cases h
  · cases h
theorem SuD.get {file : Str} {K : PySem.W.Frag} {d : SuD} (e : suW K (d.f K) = d.val) (c : d.ok file K = true) : SuOk file K d := by
  obtain ⟨k1, c⟩ := He.ba c
  obtain ⟨k2, c⟩ := He.ba c
  obtain ⟨k3, c⟩ := He.ba c
  obtain ⟨k4, c⟩ := He.ba c
  obtain ⟨k5, c⟩ := He.ba c
  obtain ⟨k6, c⟩ := He.ba c
  obtain ⟨k7, k8⟩ := He.ba c
  refine ⟨?_, k1, of_decide_eq_true k4, He.eqO_ok k5, He.eqO_ok k6, beq_iff_eq.mp k7, k8⟩
  obtain ⟨cd, hcd⟩ := Option.isSome_iff_exists.mp k3
  unfold closB at k2
  unfold suW SuD.val at e
  split at k2
  · rename_i oc od fd osl q
    rw [q] at e
    obtain ⟨n1, n2, n3, n4, n5, n6, n7, n8, n9, n10, n11, n12, n13, n14, n15⟩ := fd
    simp only [Option.some.injEq, Prod.mk.injEq] at e
    obtain ⟨h1, h2, h3, h4, h5, h6, h8⟩ := e
    subst h1 h2 h3 h4 h5 h6 h8
    dsimp only at k2
    split at k2
    · rename_i x cc cda
      obtain ⟨j1, k2⟩ := He.ba k2
      obtain ⟨j2, k2⟩ := He.ba k2
      obtain ⟨j3, j4⟩ := He.ba k2
      have jx := of_decide_eq_true j1
      subst jx
      obtain ⟨x1, x2, x3, ex⟩ := cellB_ok j2
      obtain ⟨c1, c2, c3, vs, tf, ef, ev⟩ := fileB_ok j4
      exact ⟨_, _, _, _, _, _, _, _, _, _, _, _, _, _, _, _, _, _, _, q, j3, ef, ev, ex, hcd⟩
    · cases k2
  · cases k2
/-! ### the hook -/
abbrev AlS : Type := He.AlD × Bool × List SuW
def obsS (fa : List He.Fa) (fn : List He.DefD) (su : List SuD) (file : Str) (K : PySem.W.Frag) : AlS := (He.obsD fa fn K, su.all fun d => d.ok file K, su.map fun d => suW K (d.f K))
def valS (fn : List He.DefD) (su : List SuD) : AlS := (He.valD fn, true, su.map SuD.val)
def obsSG (n : Nat) (fa : List He.Fa) (fn : List He.DefD) (su : List SuD) (file : Str) (g : Addr → Option Obj) : AlS := obsS fa fn su file (He.frG g (He.asD g n ++ [cStatics]))
def hookS (n : Nat) (fa : List He.Fa) (fn : List He.DefD) (su : List SuD) (file : Str) : PySem.W.Hook where
  α := AlS
  obs := fun s => obsSG n fa fn su file s.heap.get?
  val := fun _ => valS fn su
  says := fun _ h => ∃ K : PySem.W.Frag, K.In h ∧ obsS fa fn su file K = valS fn su
  of := fun _ _ e => ⟨_, He.frG_in, e⟩
  keeps := fun _ _ _ ⟨K, hK, c⟩ k => ⟨K, hK.keeps k, c⟩
theorem obsSG_eq {n : Nat} {fa : List He.Fa} {fn : List He.DefD} {su : List SuD} {file : Str} {g : Addr → Option Obj} {s : Shared} (h : ∀ a, g a = s.heap.get? a) : obsSG n fa fn su file g = (hookS n fa fn su file).obs s := by
  have e : g = s.heap.get? := funext h
  rw [e]
  rfl
/-- the text's facts, with these -/
structure Ty (fa : List He.Fa) (fn : List He.DefD) (su : List SuD) (file : Str) (K : PySem.W.Frag) (mg : Str → Option Value) : Prop extends Tx fa fn K mg where
  say : obsS fa fn su file K = valS fn su
theorem Ty.mk' {fa : List He.Fa} {fn : List He.DefD} {su : List SuD} {file : Str} {K : PySem.W.Frag} {mg : Str → Option Value} {h : Heap} (X : K.In h) (G : h.Ns mainGlobals mg) (c : obsS fa fn su file K = valS fn su) : Ty fa fn su file K mg :=
  ⟨⟨h, X, G, congrArg (fun z : AlS => z.1) c⟩, c⟩
theorem Ty.su {fa : List He.Fa} {fn : List He.DefD} {su : List SuD} {file : Str} {K : PySem.W.Frag} {mg : Str → Option Value} (T : Ty fa fn su file K mg) (i : Nat) {d : SuD} (h : su[i]? = some d := by rfl) : SuOk file K d := by
  have c1 : (su.all fun d => d.ok file K) = true := congrArg (fun z : AlS => z.2.1) T.say
  have c2 : (su.map fun d => suW K (d.f K)) = su.map SuD.val := congrArg (fun z : AlS => z.2.2) T.say
  have e2 : (su.map fun d => suW K (d.f K))[i]? = (su.map SuD.val)[i]? := by rw [c2]
  rw [List.getElem?_map, List.getElem?_map, h] at e2
  exact SuD.get (Option.some.inj e2) (List.all_eq_true.mp c1 d (List.mem_of_getElem? h))
/-- a def's promise, its function object named -/
theorem ok_def0 {P : Program} {w : World} {K : PySem.W.Frag} {mg : Str → Option Value} {base : Heap} {x qual : Str} {params : Arguments} {body : List Stmt} {scope : Scope} {dvs : List V} {kws : List (Str × V)} {f : Addr} {fd : FuncData} {N ps : List Str} {k n m : Nat} {b : XW → SM} (F : FunD K x qual params body scope dvs kws f fd) (S : FnScope N ps scope)
    (hn : ps.length = n) (hN : N.length = n + m)
    (hb : ∀ (cdv : Value) (A : Around) (outer : List Env) (s : Shared) (H : Hp) (E : XK), Room k (A.deeper (envOfC qual scope s.heap.objs.size f cdv)) → ∀ (X : Cx) (eX : X = cxOf (L2.CX P w) P w K mg base N qual scope f cdv A outer s H E) (W : XW), Tk X H W → PassesOwn (model X.prog X.w) X.A X.env X.xe → MSs X H body (b W)) : FnOk P w K mg base (L2.CX P w) (k + 1) f fd ps (spOf K P w (spB n m b)) := by
  refine F.ok S (fun vs H Q E h => ?_) (fun cdv A outer s H vs Q E hr h => ?_)
  · obtain ⟨ds, S0, h1, h2, Q0, E0, _, _, h3, _⟩ := h
    rw [← h1.length, h3, hn]
  · obtain ⟨ds, S0, h1, h2, Q0, E0, i1, i2, h3, h4⟩ := h
    have tk0 : Takes (cxOf (L2.CX P w) P w K mg base N qual scope f cdv A outer s H E) (fun cls d _ H => E cls d H) := takes_of rfl rfl rfl rfl
    have tk : Tk (cxOf (L2.CX P w) P w K mg base N qual scope f cdv A outer s H E) H (fun c fs _ S' => E0 c fs S') := tk0.imp fun c d σ H' z => by
      obtain ⟨l, env, S', fs, _, z1, z2, z3⟩ := z
      exact i2 _ _ _ z3 d H' l z1 z2
    have Z := hb cdv A outer s H E hr _ rfl _ tk (passes_of rfl)
    refine ⟨_, Z.ps, Le.refl H, _, S0, env_start h1 (by rw [h3]; exact hN), h2, Z.mono.go h4 ⟨fun e S' q σ H' l r z => ?_, fun d S' q v H' l z dv => i1 _ _ q v H' l z dv, fun _ _ q => q.elim, fun _ _ q => q.elim⟩⟩
    exact i1 _ _ q _ H' l z .non
end DL

set_option Elab.async false
set_option linter.all false
set_option maxRecDepth 100000
set_option maxHeartbeats 4000000
/-! DL17: a law's end. -/
namespace DL
open PySem PySem.Spec PyProof.Rows L2
theorem dvs_ints {K : PySem.W.Frag} {H : Hp} : ∀ ns : List Int, DVs K H (ns.map D.int) (ns.map V.int)
  | [] => .nil
  | n :: ns => .cons (.int n) (dvs_ints ns)
/-- a law whose promise holds at every script -/
theorem walk_of {l : PySem.W.OpenLaw} {n k : Nat} {q : Program} {loose : List Str} {XP : (Str → Option Value) → Heap → Prop} {YP : World → Heap → Prop} {d : DefRec} {x : Str} (hn : l.most = some n) (hz : n ≤ sizeLine)
    (hdf : d.params.defaults = []) (hr : Room k callerA)
    (F : ∀ (w : World) (mg : Str → Option Value) (fa : Addr) (h : Heap), YP w h → h.Ns mainGlobals mg → mg d.name = some (.ref fa) → ∃ (K : PySem.W.Frag) (fd : FuncData) (sp : SpD), K.In h ∧ (∀ (s : Shared) (u : Value), BindsTo s fd ⟨[u], []⟩ [(x, u)]) ∧
      (∀ ns : List Int, ns.length ≤ n → ∀ (S : Sto) (Q : DQ) (E : XQ), (∀ S', Q (.bl true) S') → sp [.rol (ns.map D.int)] S Q E) ∧ ∀ base : Heap, FnOk l.prog w K mg base (L2.CX l.prog w) k fa fd [x] (spOf K l.prog w sp)) :
    PySem.W.WalkO q loose XP YP l.row.toRowW d [] (fun f vs => PySem.call f vs) := by
  refine Att.attach_call hn hdf ?_
  intro w t0 t1 mg mb fa ob pm cd doc a vs ns ground hY hob hdt hcode hname hlist hare hmost hgens
  obtain ⟨K, fd, sp, kin, hb, hsp, hf⟩ := F w mg fa _ hY ground.T.g hname
  refine law_call kin ground.T.g ground.T.b ground.T.builtins ground.T.nolimit hgens hlist hare (Nat.le_trans hmost hz) hr (fun base _ _ => hf base) hb (fun H hO hS => ?_) fun H e s' hc => ?_
  · refine ⟨[.rol (ns.map D.int)], fun _ => none, .cons (.rol (RoL.of hO hS) (dvs_ints ns)) .nil, fun b o e => (by cases e), hsp ns hmost _ _ _ fun S' v H' _ _ dv => ?_⟩
    cases dv
    rfl
  · obtain ⟨_, _, _, _, _, _, _, _, _, _, _, _, z⟩ := hc
    exact z
end DL

set_option Elab.async false
set_option linter.all false
set_option maxRecDepth 100000
set_option maxHeartbeats 4000000
/-! DL18: raise and try. -/
namespace DL
open PySem PySem.Spec PyProof.Rows L2
/-! ### several clauses with names -/
structure ClH where
  c : Value
  i : Nat
  ts : Addr → Value → Option Addr → TS
def outAt (i : Nat) (D : Ends) : Ends where
  nx := fun σ H => D.nx (σ.set i none) H
  rt := D.rt
  bk := fun σ H => D.bk (σ.set i none) H
  ct := fun σ H => D.ct (σ.set i none) H
def wCl (K : PySem.W.Frag) (Wout : WX) (D : Ends) : List ClH → WX
  | [] => Wout
  | q :: r => fun cls d σ H => ∃ b, PySem.W.exmOne K cls q.c = some b ∧ (b = true → ∀ a, H a = none → q.ts a cls d (outAt q.i D) (σ.set q.i (some (.ref a))) H) ∧ (b = false → wCl K Wout D r cls d σ H)
inductive ClOk (X : Cx) : List ExceptHandler → List ClH → Prop
  | nil : ClOk X [] []
  | cons {x n : Str} {q : ClH} {st0 : Stmt} {rest : List Stmt} {p1 p2 : Pos} {hds : List ExceptHandler} {l : List ClH} (hi : X.N[q.i]? = some n) (hl : X.env.kindOf n = some .local) (hc : Names X x q.c)
      (hsu : ∀ (a : Addr) (oe : Obj) (cls : Value) (d : Option Addr) (pn : List (Addr × Obj)), Zc cls d oe → (∃ vs, oe.data = .fields vs) → PSs (X.suite a ((a, oe) :: pn)) (st0 :: rest) (q.ts a cls d)) (r : ClOk X hds l) :
      ClOk X (.ExceptHandler (some (.Name x p1)) (some n) (st0 :: rest) p2 :: hds) (q :: l)
section
variable {X : Cx} {bd : List Stmt} {c0 : ExceptHandler} {cs : List ExceptHandler} {l : List ClH} {pos : Pos} {tb : WX → TS} {Wout : WX}
theorem ps_clauses (hst : X.stack = X.env :: X.outer) (hfr : X.env.frame = some X.env.locals) (hN : X.N.Nodup) (tk : Takes X Wout)
    (hb : ∀ (W : WX) (pn : List (Addr × Obj)) (xe : Value → Shared → Prop), Takes (X.tr pn xe) W → PassesOwn (model X.prog X.w) X.A X.env xe → PSs (X.tr pn xe) bd (tb W)) (hcl : ClOk X (c0 :: cs) l) :
    PS X (.Try bd (c0 :: cs) [] [] pos) (fun D σ H => tb (wCl X.K Wout D l) D σ H) := by
  refine ⟨fun pins s0 σ0 H0 D I0 q0 => ?_⟩
  have okX := I0.ok
  have frX : X.A.frames = some (X.env :: X.outer) := okX.frames.trans (congrArg some hst)
  have body := hb (wCl X.K Wout D l) (X.pn ++ pins) (fun e s₁ => wpAny (model X.prog X.w) X.A (noteFrame e X.env) (fun _ s₂ => wpAny (model X.prog X.w) X.A (setFlight e none) (fun _ s₃ => wpAny (model X.prog X.w) X.A (handleBy e X.env (c0 :: cs)) (SP X pins D) X.xe s₃) X.xe s₂) X.xe s₁) ?air PassesOwn.looking
  case air =>
    intro uu t ⟨a, B, sI, pins', σ1, H1, cls, d, eu, JI, nb, up, sky, na, eos, abg, wish⟩
    subst eu
    have J := JI.ofTry okX
    refine Sky.land Zc.steady frX hfr (by rw [← hst]; exact sky) fun g3 air3 up3 => ?_
    have J3 : Inv X pins σ1 H1 { t with heap := g3 } := J.landed nb air3.1 (up.trans up3) eos abg
    obtain ⟨o3, v3, at3, z3, dt3⟩ := air3.there
    have off : a ∉ frs (X.env :: X.outer) := fun hm => by
      obtain ⟨_, o', e', hnf⟩ := air3.2.2.1.mem hm
      rw [at3] at e'
      cases e'
      exact hnf _ dt3
    have offL : a ≠ X.env.locals := fun z => off (List.mem_filterMap.mpr ⟨X.env, List.mem_cons_self, hfr.trans (congrArg some z.symm)⟩)
    have offF : a ∉ X.fs := fun hm => by
      obtain ⟨e, he, q⟩ := List.mem_filterMap.mp hm
      exact off (List.mem_filterMap.mpr ⟨e, List.mem_cons_of_mem _ he, q⟩)
    have inS := J3.suite at3 dt3 na offL offF
    have each : ∀ {hds : List ExceptHandler} {l' : List ClH}, ClOk X hds l' → wCl X.K Wout D l' cls d σ1 H1 → wpAny (model X.prog X.w) X.A (handleBy (.ref a) X.env hds) (SP X pins D) X.xe { t with heap := g3 } := by
      intro hds l' hk
      induction hk with
      | nil =>
        intro wo
        refine wpAny_handleBy_nil ?_
        obtain ⟨_, _, _, oz, vz, Tz, _, _, atz, _, dtz, h1z, _⟩ := id air3
        unfold PySem.passOn
        refine wpAny_bind (wpAny_field atz dtz h1z ?_)
        rw [if_neg (by simp : ¬ ((Value.ref Tz == Value.none) = true))]
        have out : wpAny (model X.prog X.w) X.A (setFlight (.ref a) X.env.frame) (fun _ s4 => wpAny (model X.prog X.w) X.A (throw (.ref a) : Sem Flow) (SP X pins D) X.xe s4) X.xe { t with heap := g3 } := by
          rw [hfr]
          exact HandSPX.setFlight_upZ air3 fun g4 hg4 up4 => wpAny_throw (tk _ _ ⟨a, B, sI, pins, σ1, H1, cls, d, rfl, J, nb, (up.trans up3).trans up4, .inr (.inr (by rw [hst]; exact hg4)), na, eos, abg, wo⟩)
        first
          | exact wpAny_bind (wpAny_pure (wpAny_bind out))
          | exact wpAny_bind out
      | @cons x n q st0 rest p1 p2 hds2 l2 hi hln hc hsu _ ih =>
        rintro ⟨b, hb1, yes, no⟩
        refine wpAny_handleBy_cons (codeAny_handlers_test ?_) (fun z => by cases z)
        have isC : PySem.W.Looks (model X.prog X.w) g3 (typeOf (.ref a)) cls := fun _ _ _ _ k w => wpAny_typeOf_ref (k _ _ at3) (by rw [z3.1]; exact w)
        have look := PySem.W.exm_one (M := model X.prog X.w) J3.kIn isC hb1
        have named : ∀ {Q : Value → Shared → Prop} {E : Value → Shared → Prop}, Q q.c { t with heap := g3 } → wpAny (model X.prog X.w) (X.A.mark (some (.ref a))) (eval (.Name x p1) X.env) Q E { t with heap := g3 } := fun {Q E} w => by
          rcases hc with ⟨c1, c2, c3 | ⟨c3, c4, c5⟩⟩
          · exact ld_glob (X := X.suite a ((a, o3) :: (X.pn ++ pins))) inS c1 c3 w c2
          · exact ld_blt (X := X.suite a ((a, o3) :: (X.pn ++ pins))) inS c1 c3 c4 w c5 c2
        refine named (look.here ?_)
        cases b with
        | false =>
          show wpAny _ X.A (handleBy (.ref a) X.env hds2) _ _ _
          exact ih (no rfl)
        | true =>
          refine codeAny_handlers_suite_as (HandSPX.lands_againZ air3 fun g4 air4 up4 => ?_)
          have J4 : Inv X pins σ1 H1 { t with heap := g4 } := J.landed nb air4.1 ((up.trans up3).trans up4) eos abg
          obtain ⟨o4, v4, at4, z4, dt4⟩ := air4.there
          refine store_ok (X := X.suite a ((a, o4) :: (X.pn ++ pins))) (v := .ref a) (J4.suite at4 dt4 na offL offF) hN hi (.inl hln) rfl (fun s5 S5 => ?_) (.inr hln)
          refine wpAny_mono ((hsu a o4 cls d (X.pn ++ pins) z4 ⟨_, dt4⟩).run [] s5 _ H1 _ S5 (yes rfl a na)) (fun fl s6 hs6 => ?_) (fun _ _ z => z.elim)
          have fin : ∀ {σ6 : L2.St} {H6 : Hp} {Q : Shared → Prop}, Inv (X.suite a ((a, o4) :: (X.pn ++ pins))) [] σ6 H6 s6 → (∀ s7, Inv X pins (σ6.set q.i none) H6 s7 → Q s7) → wpAny (model X.prog X.w) X.A (do bindName X.env n .none; unbindBehindTheSuite X.env n p2) (fun _ s7 => Q s7) X.xe s6 := fun S6 hq => gone_ok (S6.unsuite okX) hN hi hln hq
          cases fl with
          | next => obtain ⟨_, _, S6, w6⟩ := hs6; exact fin S6 fun s7 J7 => ⟨_, _, J7, w6⟩
          | brk => obtain ⟨_, _, S6, w6⟩ := hs6; exact fin S6 fun s7 J7 => ⟨_, _, J7, w6⟩
          | cont => obtain ⟨_, _, S6, w6⟩ := hs6; exact fin S6 fun s7 J7 => ⟨_, _, J7, w6⟩
          | ret u => obtain ⟨_, _, _, S6, r6, w6⟩ := hs6; exact fin S6 fun s7 J7 => ⟨_, _, _, J7, r6, w6⟩
    exact each hcl wish
  refine wpAny_Try_except (wpAny_mono (body.run [] s0 σ0 H0 D (I0.toTry _) q0) (fun fl s1 hs1 => ?_) (fun _ _ z => z))
  cases fl with
  | next => obtain ⟨_, _, J, w⟩ := hs1; exact wpAny_execs_nil ⟨_, _, J.ofTry okX, w⟩
  | brk => obtain ⟨_, _, J, w⟩ := hs1; exact ⟨_, _, J.ofTry okX, w⟩
  | cont => obtain ⟨_, _, J, w⟩ := hs1; exact ⟨_, _, J.ofTry okX, w⟩
  | ret u => obtain ⟨_, _, _, J, r, w⟩ := hs1; exact ⟨_, _, _, J.ofTry okX, r, w⟩
end
/-! ### try over the store -/
/-- a suite, by the exception, its class, its fields -/
abbrev SuM := Addr → Value → List (Str × D) → SM
structure Cl where
  C : Addr
  i : Nat
  su : SuM
def finAt (i : Nat) (A : Fin) : Fin := { nx := fun e s => A.nx (e.set i none) s, rt := A.rt, bk := fun e s => A.bk (e.set i none) s, ct := fun e s => A.ct (e.set i none) s }
def wTry (K : PySem.W.Frag) (W : XW) (A : Fin) : List Cl → XW
  | [] => W
  | q :: r => fun c fs env S => ∃ b, PySem.W.exmOne K c (.ref q.C) = some b ∧ (b = true → ∀ a, S a = none → q.su a c fs (finAt q.i A) (env.set q.i (some (.ref a))) S) ∧ (b = false → wTry K W A r c fs env S)
def mTry (K : PySem.W.Frag) (b : XW → SM) (l : List Cl) (W : XW) : SM := fun A env S => ∃ A0, FinLe A0 A ∧ b (wTry K W A0 l) A0 env S
theorem FinLe.trans {A B C : Fin} (h : FinLe A B) (h' : FinLe B C) : FinLe A C := ⟨fun e S q => h'.nx e S (h.nx e S q), fun e S q => h'.rt e S (h.rt e S q), fun e S q => h'.bk e S (h.bk e S q), fun e S q => h'.ct e S (h.ct e S q)⟩
def tSu (K : PySem.W.Frag) (P : Program) (w : World) (su : SuM) : Addr → Value → Option Addr → TS := fun a cls d D' σ H => ∃ (fs : List (Str × D)) (A1 : Fin) (env : Slo) (S : Sto), XdR K H d fs ∧ FinLe A1 (dnF K P w H D') ∧ EnvR K H env σ ∧ Rp K P w S H ∧ su a cls fs A1 env S
inductive HdM (X : Cx) : List ExceptHandler → List Cl → Prop
  | nil : HdM X [] []
  | cons {x n : Str} {q : Cl} {st0 : Stmt} {rest : List Stmt} {p1 p2 : Pos} {hds : List ExceptHandler} {l : List Cl} (hi : X.N[q.i]? = some n) (hl : X.env.kindOf n = some .local) (hc : Names X x (.ref q.C))
      (hsu : ∀ (a : Addr) (oe : Obj) (cls : Value) (d : Option Addr) (pn : List (Addr × Obj)), Zc cls d oe → (∃ vs, oe.data = .fields vs) → ∀ (fs : List (Str × D)) (B' : Hp), XdR X.K B' d fs → MSs (X.suite a ((a, oe) :: pn)) B' (st0 :: rest) (q.su a cls fs)) (r : HdM X hds l) :
      HdM X (.ExceptHandler (some (.Name x p1)) (some n) (st0 :: rest) p2 :: hds) (q :: l)
section
variable {X : Cx} {B : Hp} {W : XW}
theorem HdM.ok {hds : List ExceptHandler} {l : List Cl} (h : HdM X hds l) : ClOk X hds (l.map fun q => ⟨.ref q.C, q.i, tSu X.K X.prog X.w q.su⟩) := by
  induction h with
  | nil => exact .nil
  | cons hi hl hc hsu _ ih =>
    refine .cons hi hl hc (fun a oe cls d pn hz hf => ⟨fun pins s σ H D' I z => ?_⟩) ih
    obtain ⟨fs, A1, env, S, xd, le, er, rp, q⟩ := z
    have M := hsu a oe cls d pn hz hf fs H xd
    exact M.ps.run pins s σ H D' I ⟨Le.refl H, env, S, er, rp, M.mono _ _ _ _ le q⟩
theorem wTry_dn {K : PySem.W.Frag} {P : Program} {w : World} {H : Hp} {D' : Ends} {A0 : Fin} (le : FinLe A0 (dnF K P w H D')) (lB : Le B H) : ∀ (l : List Cl) {cls : Value} {d : Option Addr} {σ : L2.St} {H1 : Hp} {env : Slo} {S : Sto} {fs : List (Str × D)}, Le H H1 → EnvR K H1 env σ → Rp K P w S H1 → XdR K H1 d fs → wTry K W A0 l cls fs env S →
    wCl K (upW K P w B W) D' (l.map fun q => ⟨.ref q.C, q.i, tSu K P w q.su⟩) cls d σ H1
  | [], cls, d, σ, H1, env, S, fs, l1, er, rp, xd, q => ⟨lB.trans l1, env, S, fs, er, rp, xd, q⟩
  | c :: l, cls, d, σ, H1, env, S, fs, l1, er, rp, xd, q => by
    obtain ⟨b, hb, yes, no⟩ := q
    refine ⟨b, hb, fun e a na => ?_, fun e => wTry_dn le lB l l1 er rp xd (no e)⟩
    refine ⟨fs, _, _, S, xd, ?_, er.set (.ref a) c.i, rp, yes e a (rp.free na)⟩
    exact ⟨fun e s q σ' H' l' r z => le.nx _ _ q _ H' (l1.trans l') (r.unset c.i) z, fun x s q v H' l' z dv => le.rt _ _ q v H' (l1.trans l') z dv, fun e s q σ' H' l' r z => le.bk _ _ q _ H' (l1.trans l') (r.unset c.i) z, fun e s q σ' H' l' r z => le.ct _ _ q _ H' (l1.trans l') (r.unset c.i) z⟩
theorem ms_try {bd : List Stmt} {c0 : ExceptHandler} {cs : List ExceptHandler} {l : List Cl} {pos : Pos} {b : XW → SM} (hst : X.stack = X.env :: X.outer) (hfr : X.env.frame = some X.env.locals) (hN : X.N.Nodup) (tk : Tk X B W)
    (hb : ∀ (B' : Hp) (W' : XW) (pn : List (Addr × Obj)) (xe : Value → Shared → Prop), Tk (X.tr pn xe) B' W' → PassesOwn (model X.prog X.w) X.A X.env xe → MSs (X.tr pn xe) B' bd (b W')) (hcl : HdM X (c0 :: cs) l) :
    MS X B (.Try bd (c0 :: cs) [] [] pos) (mTry X.K b l W) := by
  refine ⟨ps_imp (ps_clauses (tb := fun WW D' σ H => ∃ (W' : XW) (A0 : Fin) (env : Slo) (S : Sto), (∀ cls d σ' H', upW X.K X.prog X.w H W' cls d σ' H' → WW cls d σ' H') ∧ FinLe A0 (dnF X.K X.prog X.w H D') ∧ EnvR X.K H env σ ∧ Rp X.K X.prog X.w S H ∧ b W' A0 env S) hst hfr hN tk (fun WW pn xe tk' po => ⟨fun pins s σ H D' I z => ?_⟩) hcl.ok) fun D' σ H q => ?_, fun A A' env S le q => ?_⟩
  · obtain ⟨W', A0, env, S, imp, le, er, rp, q⟩ := z
    have M := hb H W' pn xe (tk'.imp imp) po
    exact M.ps.run pins s σ H D' I ⟨Le.refl H, env, S, er, rp, M.mono _ _ _ _ le q⟩
  · obtain ⟨lB, env, S, er, rp, A0, le, q⟩ := q
    refine ⟨wTry X.K W A0 l, A0, env, S, fun cls d σ' H' z => ?_, le, er, rp, q⟩
    obtain ⟨l1, env', S', fs, er', rp', xd, hw⟩ := z
    exact wTry_dn le lB l l1 er' rp' xd hw
  · obtain ⟨A0, le0, q⟩ := q
    exact ⟨A0, le0.trans le, q⟩
/-- e.f of what is caught -/
def mXf (i : Nat) (C a : Addr) (cls : Value) (fs : List (Str × D)) (f : Str) : EM := fun env S Q => mVar i env S fun x S1 => x = .ref a ∧ cls = .ref C ∧ match fs.lookup f with
  | some v => Q v S1
  | none => False
theorem mVar_mono {i : Nat} {env : Slo} {S : Sto} {Q Q' : DQ} (h : ∀ d S, Q d S → Q' d S) (q : mVar i env S Q) : mVar i env S Q' := by
  unfold mVar at q ⊢
  split at q
  · exact h _ _ q
  · exact q.elim
theorem me_xf {a C : Addr} {oe : Obj} {cls : Value} {d : Option Addr} {pn : List (Addr × Obj)} {e : Expr} {i : Nat} {f : Str} {pos : Pos} {fs : List (Str × D)} {B' : Hp} (T : XfC X.K C) (hno : PySem.W.findIn X.K (.ref C) f = some none) (hz : Zc cls d oe) (hf : ∃ vs, oe.data = .fields vs)
    (xd : XdR X.K B' d fs) (he : ME (X.suite a ((a, oe) :: pn)) B' e (mVar i)) (hb : attributeBase e f X.env (eval e X.env) = eval e X.env := by rfl) : ME (X.suite a ((a, oe) :: pn)) B' (.Attribute e f pos) (mXf i C a cls fs f) := by
  refine ⟨pe_imp (pe_xf T hno hz hf he.pe hb) fun σ H Q q => ?_, fun env S Q Q' h q => mVar_mono (fun x S1 z => ?_) q⟩
  · obtain ⟨lB, env, S, er, rp, q⟩ := q
    refine ⟨lB, env, S, er, rp, mVar_mono (fun x S1 z v H1 l1 z1 dv => ?_) q⟩
    obtain ⟨ex, ec, hm⟩ := z
    subst ex
    cases dv
    refine ⟨rfl, ec, ?_⟩
    split at hm
    · rename_i y ey
      cases d with
      | none =>
        have e0 : fs = [] := xd
        subst e0
        cases ey
      | some dd =>
        obtain ⟨vs, e1, kv⟩ := xd
        obtain ⟨u, eu, du⟩ := (kv.lookup f).1 _ ey
        exact ⟨dd, vs, u, rfl, (lB.trans l1).xd _ _ e1, eu, hm u H1 l1 z1 (du.le (lB.trans l1))⟩
    · exact hm.elim
  · obtain ⟨ex, ec, hm⟩ := z
    refine ⟨ex, ec, ?_⟩
    split at hm
    · exact h _ _ hm
    · exact hm.elim
end
end DL

set_option Elab.async false
set_option linter.all false
set_option maxRecDepth 100000
set_option maxHeartbeats 4000000
/-! DL19: raise of an own exception with one field; what the head tells of such classes. -/
namespace DL
open PySem PySem.Spec PyProof.Rows L2
/-- __init__(self, p): self.f = p -/
def spX (K : PySem.W.Frag) (f : Str) : Sp := fun vs H Q _ => ∃ (a : Addr) (y : V) (C : Addr), vs = [.ref a, y] ∧ OexC K C ∧ PySem.W.findIn K (.ref C) f = some none ∧ H a = some (exo a C none) ∧ ∀ dx, H dx = none → dx ≠ a → Q .non (upd (upd H dx (exd dx [(f, y)])) a (exo a C (some dx)))
theorem fn_exc {P : Program} {w : World} {K : PySem.W.Frag} {mg : Str → Option Value} {base : Heap} {CX : CXT} {qual f pn : Str} {params : Arguments} {body : List Stmt} {scope : Scope} {fI : Addr} {fd : FuncData} {p0 p1 p2 p3 : Pos} (F : FunD K "__init__" qual params body scope [] [] fI fd) (S : FnScope ["self", pn] ["self", pn] scope)
    (hb : body = [.Assign [.Attribute (.Name "self" p0) f p1] (.Name pn p2) p3])
    (h1 : ∀ (X : Cx), X.N = (["self", pn] : List Str) → X.env.scope = scope → PE X (.Name "self" p0) (tVar 0) ∧ PE X (.Name pn p2) (tVar 1) ∧ swapsWith (.Name pn p2) (some (.Attribute (.Name "self" p0) f p1)) p3.line X.env = pure false) :
    FnOk P w K mg base CX 1 fI fd ["self", pn] (spX K f) := by
  refine F.ok S (fun vs H Q E h => ?_) (fun cdv A outer s H vs Q E hr h => ?_)
  · obtain ⟨a, y, C, rfl, _⟩ := h
    rfl
  · obtain ⟨g1, g2, g3⟩ := h1 (cxOf CX P w K mg base ["self", pn] qual scope fI cdv A outer s H E) rfl rfl
    refine ⟨tOst K f (tVar 0) (tVar 1), ?_, ?_⟩
    · rw [hb]
      exact pss_one (ps_ost g1 g2 g3)
    · obtain ⟨a, y, C, rfl, T, hno, ea, hq⟩ := h
      exact ⟨y, rfl, .ref a, rfl, a, C, rfl, T, hno, .inl ⟨ea, fun dx hd hne => hq dx hd hne⟩⟩
/-- what is wanted of an exception's class -/
structure ExOk (P : Program) (w : World) (K : PySem.W.Frag) (mg : Str → Option Value) (base : Heap) (x f : Str) : Prop where
  gC : mg x = some (.ref (He.ga K x))
  oex : OexC K (He.ga K x)
  iC : PySem.W.findIn K (.ref (He.ga K x)) "__init__" = some (some (.ref (He.ma K (He.ga K x) "__init__")))
  tI : PySem.W.typeIn K (.ref (He.ma K (He.ga K x) "__init__")) = some (.type "function")
  hno : PySem.W.findIn K (.ref (He.ga K x)) f = some none
  xf : XfC K (He.ga K x)
  fn : ∃ fd ps, FnOk P w K mg base (L2.CX P w) 1 (He.ma K (He.ga K x) "__init__") fd ps (spX K f) ∧ Binds K fd ps []
def mRaise (C : Addr) (f : Str) (W : XW) (ma : AM) : SM := fun _ env S => ma env S fun ds S1 => match ds with
  | [y] => W (.ref C) [(f, y)] env S1
  | _ => False
section
variable {X : Cx} {B : Hp} {W : XW} {ma : AM} {x f : Str} {p pos pos' : Pos} {e : Expr}
theorem ms_raise (hc : X.calm = true) (tk : Tk X B W) (hr : Room 2 X.A) (U : ExOk X.prog X.w X.K X.mg X.base x f) (ha : MA X B [e] ma) (hg : Gl X x := by rfl) (hdb : (x == ("__debug__" : Str)) = false := by decide)
    (he : starEach [e] X.env = (false, eval e X.env) :: starEach [] X.env := by rfl) (hpl : (backTo pos (starEach [] X.env)).any (·.1) = false := by rfl) : MS X B (.Raise (some (.Call (.Name x p) [e] [] pos)) none pos') (mRaise (He.ga X.K x) f W ma) := by
  obtain ⟨fd, ps, F1, bi⟩ := U.fn
  have none : Passes (L2.CX X.prog X.w) X (fun _ _ _ => False) := fun pins σ H s e s' I c => by
    obtain ⟨_, _, _, _, _, _, _, _, _, _, _, _, z⟩ := c
    exact z.elim
  refine ⟨ps_imp (ps_raise hc tk (pmk_oex U.oex U.iC U.tI F1 hr bi .nil none hg U.gC ha.pa hdb he hpl)) fun D' σ H q => ?_, fun A A' env S _ q => q⟩
  obtain ⟨lB, env, S, er, rp, q⟩ := q
  refine ⟨lB, env, S, er, rp, ha.mono _ _ _ _ (fun ds S1 z vs H1 l1 z1 dv => ?_) q⟩
  split at z
  · rename_i y
    cases dv with
    | @cons _ _ v _ d1 d2 =>
      cases d2
      refine ⟨by simp, fun a na => ⟨a, v, He.ga X.K x, rfl, U.oex, U.hno, upd_same, fun dx hdx hne => ⟨rfl, dx, [(f, v)], upd_same, (upd_ne hne).trans upd_same, (upd_ne hne).symm.trans hdx, ?_⟩⟩⟩
      have hd1 : H1 dx = .none := (upd_ne hne).symm.trans hdx
      have at_ : ∀ b, b ≠ a → b ≠ dx → upd (del (upd (upd (upd H1 a (exo a (He.ga X.K x) .none)) dx (exd dx [(f, v)])) a (exo a (He.ga X.K x) (some dx))) a) dx (.xd [(f, v)]) b = H1 b := fun b h1 h2 => by
        rw [upd_ne h2, del_ne h1, upd_ne h1, upd_ne h2, upd_ne h1]
      have off : ∀ b o, H1 b = some o → b ≠ a ∧ b ≠ dx := fun b o eb => ⟨fun z => (by subst z; rw [na] at eb; cases eb), fun z => (by subst z; rw [hd1] at eb; cases eb)⟩
      have le : Le H1 (upd (del (upd (upd (upd H1 a (exo a (He.ga X.K x) .none)) dx (exd dx [(f, v)])) a (exo a (He.ga X.K x) (some dx))) a) dx (.xd [(f, v)])) :=
        ⟨fun b xs eb => (at_ b (off b _ eb).1 (off b _ eb).2).trans eb, fun b o u eb => (at_ b (off b _ eb).1 (off b _ eb).2).trans eb, fun b u eb => (at_ b (off b _ eb).1 (off b _ eb).2).trans eb⟩
      refine ⟨(lB.trans l1).trans le, env, S1, [(f, y)], (er.le l1).le le, fun b o eb => ?_, ⟨[(f, v)], upd_same, .cons (d1.le le) .nil⟩, z⟩
      obtain ⟨u, eu, _⟩ := (z1 b o eb).some
      exact (z1 b o eb).at le (at_ b (off b _ eu).1 (off b _ eu).2)
  · exact z.elim
end
/-! ### the head -/
def oexB (K : PySem.W.Frag) (C : Addr) : Bool := (match K.lookup C with
  | some ⟨.type t, _, .cls cd, sl⟩ => (match cd.mro, sl.toList with
    | .ref C' :: bm, [_, _, _, _, some (.builtin n), _] => decide (t = "type") && (decide (C' = C) && (decide (n = "ValueError.__new__") && (!cd.hasDel && (cd.hasDict && PySem.HandSPX.refsVE bm))))
    | _, _ => false)
  | _ => false) && (He.eqO (PySem.W.findIn K (.ref C) "__setattr__") (some (some (.builtin "object.__setattr__"))) && (decide (PySem.W.subIn K (.ref C) (.type "BaseException") = some true) && (decide (PySem.W.typeIn K (.ref C) = some (.type "type")) && PySem.W.keepIn K (.ref C))))
theorem oexB_ok {K : PySem.W.Frag} {C : Addr} (h : oexB K C = true) : OexC K C := by
  obtain ⟨h1, h⟩ := He.ba h
  obtain ⟨h2, h⟩ := He.ba h
  obtain ⟨h3, h⟩ := He.ba h
  obtain ⟨h4, h5⟩ := He.ba h
  refine ⟨?_, He.eqO_ok h2, of_decide_eq_true h3, of_decide_eq_true h4, h5⟩
  split at h1
  · rename_i t dd cd sl e
    split at h1
    · rename_i C' bm k0 k1 k2 k3 n k5 em es
      obtain ⟨j0, h1⟩ := He.ba h1
      obtain ⟨j1, h1⟩ := He.ba h1
      obtain ⟨j2, h1⟩ := He.ba h1
      obtain ⟨j3, h1⟩ := He.ba h1
      obtain ⟨j4, j5⟩ := He.ba h1
      have i0 := of_decide_eq_true j0
      have i1 := of_decide_eq_true j1
      have i2 := of_decide_eq_true j2
      have i3 : cd.hasDel = false := by simpa using j3
      subst i0 i1 i2
      obtain ⟨nm, bs, mro, ns, qn, hd, sn, sb, ab, col, del⟩ := cd
      dsimp only at em i3 j4
      subst em i3 j4
      have esl : sl = #[k0, k1, k2, k3, some (.builtin "ValueError.__new__"), k5] := by
        rw [← Array.toList_inj]
        exact es
      subst esl
      exact ⟨_, _, _, _, _, _, _, _, _, _, _, _, _, _, _, e, j5⟩
    · cases h1
  · cases h1
def excB (K : PySem.W.Frag) (x : Str) : Bool := oexB K (He.ga K x) && xfB K (He.ga K x)
abbrev AlX : Type := AlS × Bool
def obsX (fa : List He.Fa) (fn : List He.DefD) (su : List SuD) (file : Str) (ex : List Str) (K : PySem.W.Frag) : AlX := (obsS fa fn su file K, ex.all fun x => excB K x)
def valX (fn : List He.DefD) (su : List SuD) : AlX := (valS fn su, true)
def obsXG (n : Nat) (fa : List He.Fa) (fn : List He.DefD) (su : List SuD) (file : Str) (ex : List Str) (g : Addr → Option Obj) : AlX := obsX fa fn su file ex (He.frG g (He.asD g n ++ [cStatics]))
def hookX (n : Nat) (fa : List He.Fa) (fn : List He.DefD) (su : List SuD) (file : Str) (ex : List Str) : PySem.W.Hook where
  α := AlX
  obs := fun s => obsXG n fa fn su file ex s.heap.get?
  val := fun _ => valX fn su
  says := fun _ h => ∃ K : PySem.W.Frag, K.In h ∧ obsX fa fn su file ex K = valX fn su
  of := fun _ _ e => ⟨_, He.frG_in, e⟩
  keeps := fun _ _ _ ⟨K, hK, c⟩ k => ⟨K, hK.keeps k, c⟩
theorem obsXG_eq {n : Nat} {fa : List He.Fa} {fn : List He.DefD} {su : List SuD} {file : Str} {ex : List Str} {g : Addr → Option Obj} {s : Shared} (h : ∀ a, g a = s.heap.get? a) : obsXG n fa fn su file ex g = (hookX n fa fn su file ex).obs s := by
  have e : g = s.heap.get? := funext h
  rw [e]
  rfl
structure Tz (fa : List He.Fa) (fn : List He.DefD) (su : List SuD) (file : Str) (ec : List Str) (K : PySem.W.Frag) (mg : Str → Option Value) : Prop extends Ty fa fn su file K mg where
  exs : ∀ x ∈ ec, excB K x = true
theorem Tz.mk' {fa : List He.Fa} {fn : List He.DefD} {su : List SuD} {file : Str} {ex : List Str} {K : PySem.W.Frag} {mg : Str → Option Value} {h : Heap} (X : K.In h) (G : h.Ns mainGlobals mg) (c : obsX fa fn su file ex K = valX fn su) : Tz fa fn su file ex K mg :=
  ⟨Ty.mk' X G (congrArg (fun z : AlX => z.1) c), List.all_eq_true.mp (congrArg (fun z : AlX => z.2) c)⟩
theorem Tz.exm {fa : List He.Fa} {fn : List He.DefD} {su : List SuD} {file : Str} {ex : List Str} {K : PySem.W.Frag} {mg : Str → Option Value} (T : Tz fa fn su file ex K mg) (i : Nat) {x y : Str} {b : Bool} (h : fa[i]? = some (.exm x y b) := by rfl) : PySem.W.exmOne K (.ref (He.ga K x)) (.ref (He.ga K y)) = some b := by
  obtain ⟨_, X, G, c⟩ := T.ex
  exact of_decide_eq_true (c.fact i h)
/-- a class of the text: its facts by their places: glo, meth __init__, noat f; its def -/
theorem Tz.exc {fa : List He.Fa} {fn : List He.DefD} {su : List SuD} {file : Str} {ex : List Str} {K : PySem.W.Frag} {mg : Str → Option Value} {P : Program} {w : World} {base : Heap} (T : Tz fa fn su file ex K mg) {x f : Str} (j g m n : Nat) (hj : ex[j]? = some x) (hg : fa[g]? = some (.glo x)) (hm : fa[m]? = some (.meth x "__init__")) (hn : fa[n]? = some (.noat x f))
    (hf : ∃ fd ps, FnOk P w K mg base (L2.CX P w) 1 (He.ma K (He.ga K x) "__init__") fd ps (spX K f) ∧ Binds K fd ps []) : ExOk P w K mg base x f := by
  obtain ⟨e1, e2⟩ := He.ba (T.exs x (List.mem_of_getElem? hj))
  have M := T.meth m hm
  exact ⟨T.glo g hg, oexB_ok e1, M.at_, beq_iff_eq.mp M.fn, T.noat n hn, xfB_ok e2, hf⟩
end DL

set_option Elab.async false
set_option linter.all false
set_option maxRecDepth 100000
set_option maxHeartbeats 4000000
/-! DL20: -e, list of a dict, sorted texts; steps for raise and try. -/
namespace DL
open PySem PySem.Spec PyProof.Rows L2
section
variable {X : Cx} {B : Hp} {e : Expr} {pos : Pos}
def mNeg (m : EM) : EM := fun env S Q => m env S fun d S1 => match d with
  | .int i => Q (.int (-i)) S1
  | _ => False
theorem me_neg {m : EM} (h : ME X B e m) : ME X B (.UnaryOp .USub e pos) (mNeg m) := by
  refine ⟨pe_imp (pe_un un_neg h.pe) fun σ H Q q => ?_, fun env S Q Q' i q => h.mono env S _ _ (fun d S1 z => ?_) q⟩
  · obtain ⟨lB, env, S, er, rp, q⟩ := q
    refine ⟨lB, env, S, er, rp, h.mono env S _ _ (fun d S1 z v H1 l1 z1 dv => ?_) q⟩
    split at z
    · cases dv
      exact ⟨_, rfl, z _ H1 l1 z1 (.int _)⟩
    · exact z.elim
  · split at z
    · exact i _ _ z
    · exact z.elim
def vListD : CM := fun ds S Q => match ds with
  | [.ref a] => match S a with
    | some (.dic kvs) => (∀ kv ∈ kvs, okK kv.1) ∧ ∀ p, S p = none → Q (.ref p) (put S p (.lst (kvs.map fun kv => kD kv.1)))
    | _ => False
  | _ => False
theorem dvs_keys {K : PySem.W.Frag} {H : Hp} {ds : List (Key × D)} {vs : List (Key × V)} (h : KVs K H ds vs) (ok : ∀ kv ∈ ds, okK kv.1) : DVs K H (ds.map fun kv => kD kv.1) (vs.map fun kv => kV kv.1) := by
  induction h with
  | nil => exact .nil
  | @cons k d v ds vs h1 _ ih =>
    refine .cons ?_ (ih fun kv hk => ok kv (List.mem_cons_of_mem _ hk))
    cases k with
    | inl i => exact .int i
    | inr x => exact .str x (ok (.inr x, d) (List.mem_cons_self ..))
theorem cd_listD (hc : X.calm = true) : CallD X (.type "list") vListD := by
  refine calld _ (call_listD hc) (fun xs H Q ds S h r q => ?_) (fun ds S Q Q' i q => ?_)
  · unfold vListD at q
    split at q
    · obtain ⟨v, rfl, dv⟩ := dvs1 h
      cases dv
      split at q
      · rename_i kvs e0
        obtain ⟨vs, e1, z⟩ := r _ _ e0
        exact ⟨_, vs, rfl, .inl e1, fun p hp => q.2 p (r.free hp) _ _ (Le.new hp) (r.new (o := .lst _) hp ⟨_, upd_same, (dvs_keys z q.1).le (Le.new hp)⟩) (.ref p)⟩
      · exact q.elim
    · exact q.elim
  · unfold vListD at q ⊢
    split at q
    · split at q
      · exact ⟨q.1, fun p hp => i _ _ (q.2 p hp)⟩
      · exact q.elim
    · exact q.elim
def vSortS : CM := fun ds S Q => match ds with
  | [.ref a] => ∃ zs : List Str, S a = some (.lst (zs.map D.str)) ∧ zs.length < 64 ∧ ∀ ys, ys.Perm zs → sortedS ys = true → ∀ p, S p = none → Q (.ref p) (put S p (.lst (ys.map D.str)))
  | _ => False
theorem dvs_strs {K : PySem.W.Frag} {H : Hp} : ∀ {zs : List Str} {vs : List V}, DVs K H (zs.map D.str) vs → vs = zs.map V.str ∧ ∀ z ∈ zs, OkS z
  | [], vs, h => by cases h; exact ⟨rfl, fun z hz => by cases hz⟩
  | z :: zs, vs, h => by
    cases h with
    | cons h1 h2 =>
      obtain ⟨rfl, ok⟩ := dvs_strs h2
      cases h1 with
      | str _ o => exact ⟨rfl, fun y hy => by rcases List.mem_cons.mp hy with q | q; (subst q; exact o); exact ok y q⟩
theorem strs_dvs {K : PySem.W.Frag} {H : Hp} : ∀ {zs : List Str}, (∀ z ∈ zs, OkS z) → DVs K H (zs.map D.str) (zs.map V.str)
  | [], _ => .nil
  | z :: zs, ok => .cons (.str z (ok z (List.mem_cons_self ..))) (strs_dvs fun y hy => ok y (List.mem_cons_of_mem _ hy))
theorem cd_sortS : CallD X (.builtin "sorted") vSortS := by
  refine calld _ cr_sortedS (fun xs H Q ds S h r q => ?_) (fun ds S Q Q' i q => ?_)
  · unfold vSortS at q
    split at q
    · obtain ⟨v, rfl, dv⟩ := dvs1 h
      cases dv
      obtain ⟨zs, e0, hl, q⟩ := q
      obtain ⟨vs, e1, z⟩ := r _ _ e0
      obtain ⟨rfl, ok⟩ := dvs_strs z
      exact ⟨_, zs, rfl, SqL.of e1, hl, fun ys p pm so hp => q ys pm so p (r.free hp) _ _ (Le.new hp) (r.new (o := .lst _) hp ⟨_, upd_same, strs_dvs fun y hy => ok y (pm.mem_iff.mp hy)⟩) (.ref p)⟩
    · exact q.elim
  · unfold vSortS at q ⊢
    split at q
    · obtain ⟨zs, e0, hl, q⟩ := q
      exact ⟨zs, e0, hl, fun ys pm so p hp => i _ _ (q ys pm so p hp)⟩
    · exact q.elim
end
/-! ### steps -/
section
variable {env : Slo} {S : Sto} {Q : DQ} {A : Fin} {ma : AM} {W : XW} {C a : Addr} {f : Str} {d : D} {K : PySem.W.Frag} {b : XW → SM} {l : List Cl} {m : EM} {i : Nat} {cls : Value} {fs : List (Str × D)} {c : Cl} {kvs : List (Key × D)}
def kRa (C : Addr) (f : Str) (W : XW) (env : Slo) : List D → Sto → Prop := fun ds S1 => match ds with
  | [y] => W (.ref C) [(f, y)] env S1
  | _ => False
theorem s_raise (h : ma env S (kRa C f W env)) : mRaise C f W ma A env S := h
theorem s_kRa (h : W (.ref C) [(f, d)] env S) : kRa C f W env [d] S := h
theorem s_try (h : b (wTry K W A l) A env S) : mTry K b l W A env S := ⟨A, FinLe.refl A, h⟩
theorem s_hit (e0 : PySem.W.exmOne K cls (.ref c.C) = some true) (h : ∀ a, S a = none → c.su a cls fs (finAt c.i A) (env.set c.i (some (.ref a))) S) : wTry K W A (c :: l) cls fs env S := ⟨true, e0, fun _ => h, fun z => (by cases z)⟩
theorem s_miss (e0 : PySem.W.exmOne K cls (.ref c.C) = some false) (h : wTry K W A l cls fs env S) : wTry K W A (c :: l) cls fs env S := ⟨false, e0, fun z => (by cases z), fun _ => h⟩
theorem s_xf (e0 : env[i]? = some (some (.ref a))) (el : fs.lookup f = some d) (h : Q d S) : mXf i C a (.ref C) fs f env S Q := by
  unfold mXf mVar
  simp only [e0, el]
  exact ⟨trivial, trivial, h⟩
def kNeg (Q : DQ) : DQ := fun d S1 => match d with
  | .int i => Q (.int (-i)) S1
  | _ => False
theorem s_neg (h : m env S (kNeg Q)) : mNeg m env S Q := h
theorem s_kNeg {z : Int} (h : Q (.int (-z)) S) : kNeg Q (.int z) S := h
theorem s_listD (e0 : S a = some (.dic kvs)) (ok : ∀ kv ∈ kvs, okK kv.1) (h : ∀ p, S p = none → Q (.ref p) (put S p (.lst (kvs.map fun kv => kD kv.1)))) : vListD [.ref a] S Q := by
  unfold vListD
  simp only [e0]
  exact ⟨ok, h⟩
theorem s_sortS {zs : List Str} (e0 : S a = some (.lst (zs.map D.str))) (hl : zs.length < 64) (h : ∀ ys, ys.Perm zs → sortedS ys = true → ∀ p, S p = none → Q (.ref p) (put S p (.lst (ys.map D.str)))) : vSortS [.ref a] S Q := ⟨zs, e0, hl, h⟩
end
end DL

set_option Elab.async false
set_option linter.all false
set_option maxRecDepth 100000
set_option maxHeartbeats 4000000
/-! DL21: the plain steps by one class. -/
namespace DL
open PySem PySem.Spec PyProof.Rows L2
/-- what is wanted first -/
class St (g : Prop) (n : outParam Prop) : Prop where
  go : n → g
theorem st_go {g n : Prop} [h : St g n] (q : n) : g := h.go q
section
variable {env : Slo} {S : Sto} {Q : DQ} {A : Fin} {m n : SM} {me mf mg' ma mb : EM} {g : GM} {t u : TM} {r : BM} {c : CM} {ms : AM} {d e : D} {TQ : Bool → Sto → Prop} {AQ : List D → Sto → Prop} {a : Addr} {x : D} {i j k : Nat} {K : PySem.W.Frag} {W : XW} {sp : SpD} {C : Addr} {f : Str}
instance i_asg : St (mAsg me g A env S) (me env S (kAsg g env A)) := ⟨fun h => s_asg h⟩
instance i_kAsgN : St (kAsg (gNm i) env A d S) (A.nx (env.set i (some d)) S) := ⟨fun h => s_kAsgN h⟩
instance i_if : St (mIf t m n A env S) (t env S (kIf m n A env)) := ⟨fun h => s_if h⟩
instance i_kT : St (kIf m n A env true S) (m A env S) := ⟨fun h => s_kT h⟩
instance i_kF : St (kIf m n A env false S) (n A env S) := ⟨fun h => s_kF h⟩
instance i_nx : St (mNx A env S) (A.nx env S) := ⟨fun h => s_nx h⟩
instance i_brk : St (mBrk A env S) (A.bk env S) := ⟨fun h => s_brk h⟩
instance i_cnt : St (mCnt A env S) (A.ct env S) := ⟨fun h => s_cnt h⟩
instance i_ret : St (mRet me A env S) (me env S A.rt) := ⟨fun h => s_ret h⟩
instance i_retN : St (mRetN A env S) (A.rt .non S) := ⟨fun h => s_retN h⟩
instance i_drop : St (mDrop me A env S) (me env S (kDrop env A)) := ⟨fun h => s_drop h⟩
instance i_kDrop : St (kDrop env A d S) (A.nx env S) := ⟨fun h => s_kDrop h⟩
instance i_kAug1 : St (kAug1 i d r env A x S) (r d x S (kAug2 i env A)) := ⟨fun h => s_kAug1 h⟩
instance i_kAug2 : St (kAug2 i env A d S) (A.nx (env.set i (some d)) S) := ⟨fun h => s_kAug2 h⟩
instance i_kAs1 {z : Int} : St (kAs1 a z me r env A x S) (me env S (kAs2 a z x r env A)) := ⟨fun h => s_kAs1 h⟩
instance i_kAs2 {z : Int} : St (kAs2 a z d r env A x S) (r d x S (kAs3 a z env A)) := ⟨fun h => s_kAs2 h⟩
instance i_for {mi : IM} : St (mFor mi g m A env S) (mi env S (kFor g m A env)) := ⟨fun h => s_for h⟩
instance i_kFor {xs : List D} {G : Sto → Prop} : St (kFor g m A env xs G S) (forL g m G A xs env S) := ⟨fun h => s_kFor h⟩
variable {R : List D → (Sto → Prop) → Sto → Prop} {xs ys : List D}
instance i_iSeq : St (iSeq me env S R) (me env S (kSeq R)) := ⟨fun h => s_iSeq h⟩
instance i_kSeqT : St (kSeq R (.tp fl xs) S) (R xs (fun _ => True) S) := ⟨fun h => s_kSeqT h⟩
instance i_kSeqR : St (kSeq R (.rol xs) S) (R xs (fun _ => True) S) := ⟨fun h => s_kSeqR h⟩
instance i_kSeqS {x : Str} : St (kSeq R (.str x) S) (R (sgnD x) (fun _ => True) S) := ⟨fun h => s_kSeqS h⟩
instance i_iR1 : St (iRange1 ms env S R) (ms env S (kR1 R)) := ⟨fun h => s_iR1 h⟩
instance i_iEn : St (iEnumD ms env S R) (ms env S (kEn R)) := ⟨fun h => s_iEn h⟩
instance i_kEnT : St (kEn R [.tp fl xs] S) (R (numD 0 xs) (fun _ => True) S) := ⟨fun h => s_kEnT h⟩
instance i_iZi : St (iZipD ms env S R) (ms env S (kZi R)) := ⟨fun h => s_iZi h⟩
instance i_kZi : St (kZi R [.tp fl xs, .tp fl' ys] S) (R (List.zipWith (fun x y => .tup [x, y]) xs ys) (fun _ => True) S) := ⟨fun h => s_kZi h⟩
variable {NQ : Slo → Sto → Prop} {gs : GsM}
instance i_gNm : St (gNm i d env S NQ) (NQ (env.set i (some d)) S) := ⟨fun h => s_gNm h⟩
instance i_gC : St (gC g gs (d :: xs) env S NQ) (g d env S (kgC gs xs NQ)) := ⟨fun h => s_gC h⟩
instance i_kgC : St (kgC gs xs NQ env S) (gs xs env S NQ) := ⟨fun h => s_kgC h⟩
instance i_gN : St (gN [] env S NQ) (NQ env S) := ⟨fun h => s_gN h⟩
instance i_gIx {mo mi : EM} : St (gIx mo mi d env S NQ) (mo env S (kgI1 d mi env NQ)) := ⟨fun h => s_gIx h⟩
instance i_kgI1 {mi : EM} : St (kgI1 d mi env NQ e S) (mi env S (kgI2 d e env NQ)) := ⟨fun h => s_kgI1 h⟩
instance i_C : St (mC d env S Q) (Q d S) := ⟨fun h => s_C h⟩
instance i_op : St (mOp r ma mb env S Q) (ma env S (kOp1 r mb env Q)) := ⟨fun h => s_op h⟩
instance i_kOp1 : St (kOp1 r mb env Q d S) (mb env S (kOp2 r d Q)) := ⟨fun h => s_kOp1 h⟩
instance i_kOp2 : St (kOp2 r d Q e S) (r d e S Q) := ⟨fun h => s_kOp2 h⟩
instance i_B : St (mB me env S TQ) (me env S (kB TQ)) := ⟨fun h => s_B h⟩
instance i_kB {b : Bool} : St (kB TQ (.bl b) S) (TQ b S) := ⟨fun h => s_kB h⟩
instance i_tru : St (mTru me env S TQ) (me env S (kTru TQ)) := ⟨fun h => s_tru h⟩
instance i_and : St (mAnd t u env S TQ) (t env S (kAnd u env TQ)) := ⟨fun h => s_and h⟩
instance i_or : St (mOr t u env S TQ) (t env S (kOr u env TQ)) := ⟨fun h => s_or h⟩
instance i_not : St (mNot t env S TQ) (t env S (kNot TQ)) := ⟨fun h => s_not h⟩
instance i_kNot {b : Bool} : St (kNot TQ b S) (TQ (!b) S) := ⟨fun h => s_kNot h⟩
instance i_kAndT : St (kAnd u env TQ true S) (u env S TQ) := ⟨fun h => s_kAndT h⟩
instance i_kAndF : St (kAnd u env TQ false S) (TQ false S) := ⟨fun h => s_kAndF h⟩
instance i_kOrT : St (kOr u env TQ true S) (TQ true S) := ⟨fun h => s_kOrT h⟩
instance i_kOrF : St (kOr u env TQ false S) (u env S TQ) := ⟨fun h => s_kOrF h⟩
instance i_andV : St (mAndV ma mb env S Q) (ma env S (kB (kAndV mb env Q))) := ⟨fun h => s_andV h⟩
instance i_orV : St (mOrV ma mb env S Q) (ma env S (kB (kOrV mb env Q))) := ⟨fun h => s_orV h⟩
instance i_notV : St (mNotV ma env S Q) (ma env S (kB (kNotV Q))) := ⟨fun h => s_notV h⟩
instance i_kNotV {b : Bool} : St (kNotV Q b S) (Q (.bl (!b)) S) := ⟨fun h => s_kNotV h⟩
instance i_kAndVT : St (kAndV mb env Q true S) (mb env S Q) := ⟨fun h => s_kAndVT h⟩
instance i_kAndVF : St (kAndV mb env Q false S) (Q (.bl false) S) := ⟨fun h => s_kAndVF h⟩
instance i_kOrVT : St (kOrV mb env Q true S) (Q (.bl true) S) := ⟨fun h => s_kOrVT h⟩
instance i_kOrVF : St (kOrV mb env Q false S) (mb env S Q) := ⟨fun h => s_kOrVF h⟩
instance i_ifE : St (mIfE t ma mb env S Q) (t env S (kIfE ma mb env Q)) := ⟨fun h => s_ifE h⟩
instance i_kIfET : St (kIfE ma mb env Q true S) (ma env S Q) := ⟨fun h => s_kIfET h⟩
instance i_kIfEF : St (kIfE ma mb env Q false S) (mb env S Q) := ⟨fun h => s_kIfEF h⟩
variable {r' : BM} {mc : EM}
instance i_chain : St (mChain r r' ma mb mc env S Q) (ma env S (kCh1 r r' mb mc env Q)) := ⟨fun h => s_chain h⟩
instance i_kCh1 : St (kCh1 r r' mb mc env Q d S) (mb env S (kCh2 r r' d mc env Q)) := ⟨fun h => s_kCh1 h⟩
instance i_kCh2 : St (kCh2 r r' d mc env Q e S) (r d e S (kB (kCh3 r' e mc env Q))) := ⟨fun h => s_kCh2 h⟩
instance i_kCh3T : St (kCh3 r' d mc env Q true S) (mc env S (kOp2 r' d Q)) := ⟨fun h => s_kCh3T h⟩
instance i_kCh3F : St (kCh3 r' d mc env Q false S) (Q (.bl false) S) := ⟨fun h => s_kCh3F h⟩
instance i_nil : St (mNil env S AQ) (AQ [] S) := ⟨fun h => s_nil h⟩
instance i_cons : St (mCons me ms env S AQ) (me env S (kC1 ms env AQ)) := ⟨fun h => s_cons h⟩
instance i_kC1 : St (kC1 ms env AQ d S) (ms env S (kC2 d AQ)) := ⟨fun h => s_kC1 h⟩
instance i_kC2 : St (kC2 d AQ xs S) (AQ (d :: xs) S) := ⟨fun h => s_kC2 h⟩
instance i_CB : St (mCB c ms env S Q) (ms env S (kCB c Q)) := ⟨fun h => s_CB h⟩
instance i_kCB : St (kCB c Q xs S) (c xs S Q) := ⟨fun h => s_kCB h⟩
instance i_call : St (mCall sp W ms env S Q) (ms env S (kSp sp W env Q)) := ⟨fun h => s_call h⟩
instance i_kSp : St (kSp sp W env Q xs S) (sp xs S Q fun c fs S' => W c fs env S') := ⟨fun h => s_kSp h⟩
instance i_make : St (mMake C sp W ms env S Q) (ms env S (kMk C sp W env Q)) := ⟨fun h => s_make h⟩
instance i_kMk : St (kMk C sp W env Q xs S) (∀ p, S p = none → sp (.ref p :: xs) (put S p (.ins C [])) (fun v S2 => v = .non ∧ Q (.ref p) S2) fun c fs S' => W c fs env S') := ⟨fun h => s_kMk h⟩
end
section
variable {env : Slo} {S : Sto} {Q : DQ} {A : Fin} {me mo ma mb : EM} {ms : AM} {d e x : D} {AQ : List D → Sto → Prop} {a C : Addr} {K : PySem.W.Frag} {W : XW} {sp : SpD} {f : Str} {xs ys : List D} {fs : List (Str × D)} {kvs : List (Key × D)} {kk : Key}
instance i_kTup : St (kTup Q xs S) (Q (.tup xs) S) := ⟨fun h => s_kTup h⟩
instance i_meth : St (mMeth C f sp W mo ms env S Q) (mo env S (kMe1 C f sp W ms env Q)) := ⟨fun h => s_meth h⟩
instance i_kMe2 : St (kMe2 sp W a env Q xs S) (sp (.ref a :: xs) S Q fun c fs S' => W c fs env S') := ⟨fun h => s_kMe2 h⟩
instance i_fld : St (mFld K me f env S Q) (me env S (kFld K f Q)) := ⟨fun h => s_fld h⟩
instance i_setF : St (mSetF K mo me f A env S) (me env S (kSf1 K f mo env A)) := ⟨fun h => s_setF h⟩
instance i_kSf1 : St (kSf1 K f mo env A d S) (mo env S (kSf2 K f d env A)) := ⟨fun h => s_kSf1 h⟩
instance i_addI {i j : Int} : St (vAdd (.int i) (.int j) S Q) (Q (.int (i + j)) S) := ⟨fun h => s_addI h⟩
instance i_iaddI {i j : Int} : St (vIadd (.int i) (.int j) S Q) (Q (.int (i + j)) S) := ⟨fun h => s_iaddI h⟩
instance i_sub {i j : Int} : St (vSub (.int i) (.int j) S Q) (Q (.int (i - j)) S) := ⟨fun h => s_sub h⟩
instance i_ltI {i j : Int} : St (vLt (.int i) (.int j) S Q) (Q (.bl (decide (i < j))) S) := ⟨fun h => s_ltI h⟩
instance i_leI {i j : Int} : St (vLe (.int i) (.int j) S Q) (Q (.bl (decide (i ≤ j))) S) := ⟨fun h => s_leI h⟩
instance i_abs {i : Int} : St (vAbs [.int i] S Q) (Q (.int (if i < 0 then -i else i)) S) := ⟨fun h => s_abs h⟩
instance i_int {i : Int} : St (vInt [.int i] S Q) (Q (.int i) S) := ⟨fun h => s_int h⟩
instance i_max {i j : Int} : St (vMax [.int i, .int j] S Q) (Q (.int (if j > i then j else i)) S) := ⟨fun h => s_max h⟩
instance i_eqS {g : Bool → Bool} {i j : Str} : St (vEqG g (.str i) (.str j) S Q) (Q (.bl (g (decide (i = j)))) S) := ⟨fun h => s_eqS h⟩
instance i_eqI {g : Bool → Bool} {i j : Int} : St (vEqG g (.int i) (.int j) S Q) (Q (.bl (g (decide (i = j)))) S) := ⟨fun h => s_eqI h⟩
instance i_eqB {g : Bool → Bool} {i j : Bool} : St (vEqG g (.bl i) (.bl j) S Q) (Q (.bl (g (decide (i = j)))) S) := ⟨fun h => s_eqB h⟩
instance i_gtI {i j : Int} : St (vGt (.int i) (.int j) S Q) (Q (.bl (decide (j < i))) S) := ⟨fun h => s_gtI h⟩
instance i_geI {i j : Int} : St (vGe (.int i) (.int j) S Q) (Q (.bl (decide (j ≤ i))) S) := ⟨fun h => s_geI h⟩
instance i_leS {i j : Str} : St (vLe (.str i) (.str j) S Q) (Q (.bl (!decide (j.cps.toList < i.cps.toList))) S) := ⟨fun h => s_leS h⟩
instance i_tup : St (mTup ms env S Q) (ms env S (kTp Q)) := ⟨fun h => s_tup h⟩
instance i_lst : St (mLst ms env S Q) (ms env S (kLs Q)) := ⟨fun h => s_lst h⟩
variable {ok : D → Sto → Prop} {rm : MM}
instance i_met : St (mMet ok rm mo ms env S Q) (mo env S (kMt1 ok rm ms env Q)) := ⟨fun h => s_met h⟩
instance i_kMt2 : St (kMt2 rm d Q xs S) (rm d xs S Q) := ⟨fun h => s_kMt2 h⟩
variable {mk mx : EM}
instance i_get2 : St (mGet2 mo mk mx env S Q) (mo env S (kGt1 mk mx env Q)) := ⟨fun h => s_get2 h⟩
instance i_kGt2 : St (kGt2 d mx env Q e S) (mx env S (kGt3 d e Q)) := ⟨fun h => s_kGt2 h⟩
variable {PQ : List (D × D) → Sto → Prop} {mps : List (EM × EM)} {ps : List (D × D)}
instance i_psC : St (mPs ((ma, mb) :: mps) env S PQ) (ma env S (kPsK mb mps env PQ)) := ⟨fun h => s_psC h⟩
instance i_psN : St (mPs [] env S PQ) (PQ [] S) := ⟨fun h => s_psN h⟩
instance i_kPsK : St (kPsK mb mps env PQ d S) (mb env S (kPsV d mps env PQ)) := ⟨fun h => s_kPsK h⟩
instance i_kPsV : St (kPsV d mps env PQ e S) (mPs mps env S (kPs2 d e PQ)) := ⟨fun h => s_kPsV h⟩
instance i_kPs2 : St (kPs2 d e PQ ps S) (PQ ((d, e) :: ps) S) := ⟨fun h => s_kPs2 h⟩
instance i_add : St (mAdd mo ms env S Q) (mo env S (kAd1 ms env Q)) := ⟨fun h => s_add h⟩
instance i_isN {g : Bool → Bool} : St (vIsG g .non .non S Q) (Q (.bl (g true)) S) := ⟨fun h => s_isN h⟩
variable {lo hi : OM} {OQ : Option Int → Sto → Prop} {l h' : Option Int}
instance i_sl : St (mSl me lo hi env S Q) (me env S (kSl1 lo hi env Q)) := ⟨fun h => s_sl h⟩
instance i_kSl1 : St (kSl1 lo hi env Q d S) (lo env S (kSl2 d hi env Q)) := ⟨fun h => s_kSl1 h⟩
instance i_kSl2 : St (kSl2 d hi env Q l S) (hi env S (kSl3 d l Q)) := ⟨fun h => s_kSl2 h⟩
instance i_kSl3 : St (kSl3 d l Q h' S) (vSl d l h' S Q) := ⟨fun h => s_kSl3 h⟩
instance i_noP : St (mNoP env S OQ) (OQ none S) := ⟨fun h => s_noP h⟩
instance i_P : St (mP me env S OQ) (me env S (kP OQ)) := ⟨fun h => s_P h⟩
instance i_kP {i : Int} : St (kP OQ (.int i) S) (OQ (some i) S) := ⟨fun h => s_kP h⟩
instance i_slT : St (vSl (.tup xs) l h' S Q) (Q (.tup (cutD xs l h')) S) := ⟨fun h => s_slT h⟩
variable {g : GM} {t : TM} {G : Sto → Prop} {mi : IM} {vs : List Nat}
instance i_lc : St (mLc mi g t me vs env S Q) (mi env S (kLc g t me vs env Q)) := ⟨fun h => s_lc h⟩
instance i_kLc : St (kLc g t me vs env Q xs G S) (∀ p, S p = none → lcL g t me G p Q (wipeD env vs) xs (put S p (.lst []))) := ⟨fun h => s_kLc h⟩
instance i_dc : St (mDc mi g t mk mb vs env S Q) (mi env S (kDc g t mk mb vs env Q)) := ⟨fun h => s_dc h⟩
instance i_kDc : St (kDc g t mk mb vs env Q xs G S) (∀ p, S p = none → dcL g t mk mb G p Q (wipeD env vs) xs (put S p (.dic []))) := ⟨fun h => s_kDc h⟩
instance i_lenT : St (vLen [.tp fl xs] S Q) (Q (.int xs.length) S) := ⟨fun h => s_lenT h⟩
instance i_lenR : St (vLen [.rol xs] S Q) (Q (.int xs.length) S) := ⟨fun h => s_lenR h⟩
instance i_lenS {x : Str} : St (vLen [.str x] S Q) (Q (.int x.length) S) := ⟨fun h => s_lenS h⟩
instance i_tupleT : St (vTuple [.tup xs] S Q) (Q (.tup xs) S) := ⟨fun h => s_tupleT h⟩
instance i_kTruB {TQ : Bool → Sto → Prop} {b : Bool} : St (kTru TQ (.bl b) S) (TQ b S) := ⟨fun h => s_kTruB h⟩
end
end DL

set_option Elab.async false
set_option linter.all false
set_option maxRecDepth 100000
set_option maxHeartbeats 4000000
/-! DL22: all(..), any(..), tuple.index, comprehensions of two clauses, dicts of tuple keys (made, set, frozen, read, walked), zip of lists. -/
namespace DL
open PySem PySem.Spec PyProof.Rows L2
section
variable {X : Cx} {B : Hp}
/-! ### all(list), any(list) -/
def vAllG (f : List Bool → Bool) : CM := fun ds S Q => match ds with
  | [.ref a] => ∃ bs : List Bool, S a = some (.lst (bs.map D.bl)) ∧ Q (.bl (f bs)) S
  | _ => False
abbrev vAll : CM := vAllG fun bs => bs.all id
abbrev vAny : CM := vAllG fun bs => bs.any id
theorem dvs_bls {K : PySem.W.Frag} {H : Hp} : ∀ {bs : List Bool} {vs : List V}, DVs K H (bs.map D.bl) vs → vs = bs.map V.bl
  | [], _, h => by cases h; rfl
  | b :: bs, _, h => by
    cases h with
    | cons h1 h2 =>
      cases h1
      rw [dvs_bls h2]
      rfl
theorem mon_allG {f : List Bool → Bool} : ∀ ds S (Q Q' : DQ), (∀ d S, Q d S → Q' d S) → vAllG f ds S Q → vAllG f ds S Q' := fun ds S Q Q' i q => by
  unfold vAllG at q ⊢
  split at q
  · obtain ⟨bs, e, q⟩ := q
    exact ⟨bs, e, i _ _ q⟩
  · exact q.elim
theorem cd_all (hc : X.calm = true) : CallD X (.builtin "all") vAll := by
  refine calld _ (cr_all hc) (fun xs H Q ds S h r q => ?_) mon_allG
  unfold vAll vAllG at q
  split at q
  · obtain ⟨v, rfl, dv⟩ := dvs1 h
    cases dv
    obtain ⟨bs, e0, q⟩ := q
    obtain ⟨vs, e1, z⟩ := r _ _ e0
    obtain rfl := dvs_bls z
    exact ⟨_, bs, rfl, SqL.of e1, dn_same q r (.bl _)⟩
  · exact q.elim
theorem cd_any (hc : X.calm = true) : CallD X (.builtin "any") vAny := by
  refine calld _ (cr_any hc) (fun xs H Q ds S h r q => ?_) mon_allG
  unfold vAny vAllG at q
  split at q
  · obtain ⟨v, rfl, dv⟩ := dvs1 h
    cases dv
    obtain ⟨bs, e0, q⟩ := q
    obtain ⟨vs, e1, z⟩ := r _ _ e0
    obtain rfl := dvs_bls z
    exact ⟨_, bs, rfl, SqL.of e1, dn_same q r (.bl _)⟩
  · exact q.elim
/-! ### tuple(list), known to have no dict -/
def vTupN : CM := fun ds S Q => match ds with
  | [.ref a] => ∃ xs, S a = some (.lst xs) ∧ Q (.tp true xs) S
  | _ => False
theorem call_tupN : CallR X (.type "tuple") (fun xs H Q => ∃ p ys, xs = [.ref p] ∧ SqL X.K H p ys ∧ ∀ l o, H l = none → o.dict = none → Q (.ref l) (upd H l (.frz o (.tup ys)))) := by
  intro pins s σ H xs us Q I r h
  obtain ⟨p, ys, rfl, hq, q⟩ := h
  obtain ⟨u, rfl, rx⟩ := vals1 r
  cases rx
  obtain ⟨its, rv, pl, hz⟩ := I.list hq
  have hn := rv.length
  refine call_tuple_list pl.isList (fun h1 kp => ?_) (by simp only [List.size_toArray] <;> omega)
  have I1 : Inv X pins σ H { s with heap := h1 } := I.kept (t' := s.toks) kp
  refine ⟨.ref h1.objs.size, upd H h1.objs.size (.frz { cls := .type "tuple", data := .seq its.toArray } (.tup ys)), ?_, rfl, q _ _ (I1.hok.fresh (Nat.le_refl _)) rfl⟩
  refine I1.laid (t' := s.toks) (fun b o e => Heap.get?_push_of_some _ e) (Nat.le_refl _) ?_
  exact ⟨Heap.get?_push_size _ rfl, hz, its, rv, IsTup.new _ _⟩
theorem cd_tupN : CallD X (.type "tuple") vTupN := by
  refine calld _ call_tupN (fun xs H Q ds S h r q => ?_) (fun ds S Q Q' i q => ?_)
  · unfold vTupN at q
    split at q
    · obtain ⟨v, rfl, dv⟩ := dvs1 h
      cases dv
      obtain ⟨xs, e0, q⟩ := q
      obtain ⟨vs, e1, z⟩ := r _ _ e0
      refine ⟨_, vs, rfl, SqL.of e1, fun l o hl ho => q _ _ (Le.new hl) (r.more hl) (.tup (.inl (.inr ⟨o, upd_same⟩)) (z.le (Le.new hl)) ⟨o, upd_same, ho⟩)⟩
    · exact q.elim
  · unfold vTupN at q ⊢
    split at q
    · obtain ⟨xs, e, q⟩ := q
      exact ⟨xs, e, i _ _ q⟩
    · exact q.elim
/-! ### tuple.index of texts -/
def okT (d : D) (_ : Sto) : Prop := match d with
  | .tp f _ => f = true
  | _ => False
def tyN (x : V) (H : Hp) : Prop := ∃ a o vs, x = .ref a ∧ H a = some (.frz o (.tup vs)) ∧ o.dict = none
theorem ty_N : TyOk X "tuple" tyN := fun pins σ H s x v I r q => by
  obtain ⟨a, o, vs, rfl, e, hd⟩ := q
  obtain rfl : v = Value.ref a := r
  obtain ⟨e1, _, its, _, o', e2, hc, _⟩ := I.hok a _ e
  refine ⟨⟨o', e2, hc⟩, fun b eb => ?_⟩
  cases eb
  exact ⟨o, e1, hd⟩
theorem ty_okT : ∀ d x S H, DV X.K H d x → Rp X.K X.prog X.w S H → okT d S → tyN x H := fun d x S H h r q => by
  unfold okT at q
  split at q
  · subst q
    cases h with
    | tup s z t =>
      obtain ⟨o, e, hd⟩ := t
      exact ⟨_, o, _, rfl, e, hd⟩
  · exact q.elim
def rIdx : MM := fun d ds S Q => match d, ds with
  | .tp _ xs, [.str z] => ∃ (ys : List Str) (j : Nat), xs = ys.map D.str ∧ ys[j]? = some z ∧ (∀ m, m < j → ys[m]? ≠ some z) ∧ Q (.int (j : Nat)) S
  | _, _ => False
theorem dvs_strT {K : PySem.W.Frag} {H : Hp} : ∀ {bs : List Str} {vs : List V}, DVs K H (bs.map D.str) vs → vs = bs.map V.str
  | [], _, h => by cases h; rfl
  | b :: bs, _, h => by
    cases h with
    | cons h1 h2 =>
      cases h1
      rw [dvs_strT h2]
      rfl
theorem md_index : MetD X "tuple.index" rIdx := by
  refine metd _ mt_tup_index (fun x xs H Q d ds S h1 h2 r q => ?_) (fun d ds S Q Q' i q => ?_)
  · unfold rIdx at q
    split at q
    · obtain ⟨v, rfl, dv⟩ := dvs1 h2
      cases dv
      cases h1 with
      | tup s z t =>
        obtain ⟨ys, j, rfl, e1, e2, q⟩ := q
        obtain rfl := dvs_strT z
        exact ⟨_, ys, _, j, rfl, rfl, s, e1, e2, dn_same q r (.int _)⟩
    · exact q.elim
  · unfold rIdx at q ⊢
    split at q
    · obtain ⟨ys, j, e, e1, e2, q⟩ := q
      exact ⟨ys, j, e, e1, e2, i _ _ q⟩
    · exact q.elim
theorem me_index {o e : Expr} {mo : EM} {ma : AM} {apos cpos : Pos} (ho : ME X B o mo) (ha : MA X B [e] ma)
    (hbase : attributeBase o "index" X.env (eval o X.env) = eval o X.env := by rfl)
    (hfew : ((backTo cpos (starEach [e] X.env)).all (fun x => !x.1) && (backToKw cpos (keywordEach [] X.env)).all (fun x => x.1.isSome)
      && decide ([e].length + ([] : List Keyword).length + (if ([] : List Keyword).isEmpty then 0 else 1) < 30)) = true := by rfl)
    (hline : (apos.endLine == cpos.line) = true := by rfl) (hs : starEach [e] X.env = (false, eval e X.env) :: starEach [] X.env := by rfl) (hplain : (backTo cpos (starEach [] X.env)).any (·.1) = false := by rfl) :
    ME X B (.Call (.Attribute o "index" apos) [e] [] cpos) (mMet okT rIdx mo ma) :=
  me_met ty_N ty_okT PySem.F.plainAttrs_tuple PySem.F.slot_tuple_index PySem.F.type_tuple_index md_index ho ha hbase hfew hline hs hplain
/-! ### zip of two lists -/
end
section
variable {K : PySem.W.Frag} {P : Program} {w : World} {H1 : Hp} {a b : Addr} {ds es : List D}
theorem wk_zipL : WkD K P w H1 (Itz K a b) (List.zipWith (fun x y => .tup [x, y]) ds es) fun S => S a = some (.lst ds) ∧ S b = some (.lst es) where
  go := fun i S H hi l r g => by
    obtain ⟨vs, q, z⟩ := r _ _ g.1
    obtain ⟨us, q', z'⟩ := r _ _ g.2
    rw [List.length_zipWith, z.length, z'.length] at hi
    exact ⟨vs, us, vs[i]'(by omega), us[i]'(by omega), SqL.of q, SqL.of q', List.getElem?_eq_getElem (by omega), List.getElem?_eq_getElem (by omega)⟩
  stop := fun S H l r g => by
    obtain ⟨vs, q, z⟩ := r _ _ g.1
    obtain ⟨us, q', z'⟩ := r _ _ g.2
    rw [List.length_zipWith, z.length, z'.length]
    exact ⟨vs, us, SqL.of q, SqL.of q', by omega⟩
  yld := fun i S H x H' hi l r g y => by
    obtain ⟨vs, q, z⟩ := r _ _ g.1
    obtain ⟨us, q', z'⟩ := r _ _ g.2
    obtain ⟨T, x', y', rfl, hT, rfl, hx, hy⟩ := y
    rw [List.length_zipWith] at hi
    obtain ⟨v, e3, dv⟩ := z.get (List.getElem?_eq_getElem (show i < ds.length by omega))
    obtain ⟨v', e3', dv'⟩ := z'.get (List.getElem?_eq_getElem (show i < es.length by omega))
    have hx' := hx vs (SqL.of q)
    have hy' := hy us (SqL.of q')
    rw [e3] at hx'
    rw [e3'] at hy'
    cases hx'
    cases hy'
    obtain ⟨p1, p2, p3⟩ := pair_new r hT dv dv'
    refine ⟨p1, p2, _, ?_, p3⟩
    rw [List.getElem?_zipWith, List.getElem?_eq_getElem (show i < ds.length by omega), List.getElem?_eq_getElem (show i < es.length by omega)]
end
section
variable {X : Cx} {B : Hp} {p pos tpos : Pos} {elts : List Expr} {kk : Nat}
def iZipL (m : AM) : IM := fun env S R => m env S fun ds S1 => match ds with
  | [.ref a, .ref b] => ∃ xs ys, S1 a = some (.lst xs) ∧ S1 b = some (.lst ys) ∧ R (List.zipWith (fun x y => .tup [x, y]) xs ys) (fun S => S a = some (.lst xs) ∧ S b = some (.lst ys)) S1
  | _ => False
theorem mi_zipL {e e2 : Expr} {m : AM} (ha : MA X B [e, e2] m) (hm : X.mg "zip" = none) (hg : Gl X "zip" := by rfl) (hs : starEach [e, e2] X.env = (false, eval e X.env) :: starEach [e2] X.env := by rfl) (hpl : (backTo pos (starEach [e2] X.env)).any (·.1) = false := by rfl) :
    MI X B (.Tuple elts kk tpos) (.Call (.Name "zip" p) [e, e2] [] pos) (iZipL m) := by
  refine ⟨pi_imp (RZ.pi_zipA hg hm ha.pa hs hpl) fun σ H R q => ?_, fun env S Q Q' i q => ha.mono env S _ _ (fun d S1 q => ?_) q⟩
  · obtain ⟨lB, env, S, r0, z0, q⟩ := q
    refine ⟨lB, env, S, r0, z0, ha.mono env S _ _ (fun ds S1 q vs H1 l1 z1 d1 => ?_) q⟩
    split at q
    · obtain ⟨v, u, rfl, dv, du⟩ := dvs2 d1
      cases dv
      cases du
      obtain ⟨xs, ys, e1, e2, q⟩ := q
      obtain ⟨us, f1, _⟩ := z1 _ _ e1
      obtain ⟨ws, f2, _⟩ := z1 _ _ e2
      exact ⟨_, _, _, _, rfl, .inl ⟨SqL.of f1, SqL.of f2, q _ H1 l1 z1 wk_zipL⟩⟩
    · exact q.elim
  · split at q
    · obtain ⟨xs, ys, e1, e2, q⟩ := q
      exact ⟨xs, ys, e1, e2, i _ _ _ q⟩
    · exact q.elim
end
/-! ### dicts of tuple keys -/
section
variable {X : Cx} {B : Hp} {pos : Pos}
def mDNewT : EM := fun _ S Q => ∀ p, S p = none → Q (.ref p) (put S p (.dit []))
theorem me_dnewT : ME X B (.Dict [] [] pos) mDNewT := by
  refine ⟨pe_imp pe_dnewT fun σ H Q q => ?_, fun env S Q Q' i q p hp => i _ _ (q p hp)⟩
  obtain ⟨lB, env, S, r0, z0, q⟩ := q
  exact fun p hp => q p (z0.free hp) _ _ (Le.new hp) (z0.new (o := .dit []) hp ⟨[], upd_same, .nil⟩) (.ref p)
/-- a tuple of ints and texts -/
def keysD : D → Option (List Key)
  | .tp f xs => if f then none else xs.mapM keyD
  | _ => none
theorem dvs_keysV {K : PySem.W.Frag} {H : Hp} : ∀ {ds : List D} {vs : List V} {k : List Key}, DVs K H ds vs → ds.mapM keyD = some k → vs = k.map kV
  | [], _, k, h, e => by
    cases h
    simp at e
    subst e
    rfl
  | d :: ds, _, k, h, e => by
    cases h with
    | cons h1 h2 =>
      rw [List.mapM_cons] at e
      cases e1 : keyD d with
      | none => rw [e1] at e; cases e
      | some x =>
        rw [e1] at e
        cases e2 : ds.mapM keyD with
        | none => rw [e2] at e; cases e
        | some xs =>
          rw [e2] at e
          cases e
          rw [dvs_keysV h2 e2, key_dv h1 e1]
          rfl
theorem keys_dv {K : PySem.W.Frag} {H : Hp} {d : D} {v : V} {k : List Key} (h : DV K H d v) (e : keysD d = some k) : ∃ b, v = .ref b ∧ H b = some (.tup (k.map kV)) := by
  cases h <;> first | (cases e; done) | skip
  rename_i a vs ds f s z t
  cases f with
  | true => cases e
  | false => exact ⟨a, rfl, by rw [show H a = some (.tup vs) from t, dvs_keysV z e]⟩
/-- the store behind o[i] = v -/
def setT (S : Sto) (o i v : D) : Option Sto := match o, keysD i with
  | .ref a, some k => match S a with
    | some (.dit kvs) => if kvs.length < sizeLine then some (put S a (.dit (putD kvs k v))) else none
    | _ => none
  | _, _ => none
def rSetT (X : Cx) : TSet := fun o i v H Q => ∃ do_ di dv S S', DV X.K H do_ o ∧ DV X.K H di i ∧ DV X.K H dv v ∧ Rp X.K X.prog X.w S H ∧ setT S do_ di dv = some S' ∧ ∀ H', Le H H' → Rp X.K X.prog X.w S' H' → Q H'
theorem set_anyT (hu : X.A.units + 1 < cLine) : PSet X (rSetT X) := by
  intro pins s σ H o i v ov iv u Q I ro ri rv h
  obtain ⟨do_, di, dv, S, S', h1, h2, h3, r, e, q⟩ := h
  unfold setT at e
  split at e
  · rename_i a k ek
    cases h1
    split at e
    · rename_i kvs e0
      split at e
      · rename_i hl
        cases e
        obtain ⟨vs, q1, z1⟩ := r _ _ e0
        have mu : Mut (H a) := by rw [q1]; trivial
        obtain ⟨b, rfl, hb⟩ := keys_dv h2 ek
        exact set_dict hu pins s σ H _ _ v ov iv u Q I ro ri rv ⟨a, _, rfl, DPut.t q1 hb (by rw [← z1.length]; exact hl), q _ (Le.mut mu) (r.wr mu ⟨_, upd_same, (z1.put k h3).le (Le.mut mu)⟩)⟩
      · cases e
    · cases e
  · cases e
def gIxT (mo mi : EM) : GM := fun d env S Q => mo env S fun o S1 => mi env S1 fun i S2 => match setT S2 o i d with
  | some S3 => Q env S3
  | none => False
theorem mg_subT {o i : Expr} {mo mi : EM} (hu : X.A.units + 1 < cLine) (ho : ME X B o mo) (hi : ME X B i mi)
    (ha : ∀ v, assign (.Subscript o i pos) X.env v = (do
      let ov ← holding [v] (eval o X.env)
      let iv ← holding [v, ov] (eval i X.env)
      standAt pos
      holding [v, ov, iv] (setItem ov iv v)
      release [v, ov, iv] []) := by intro _; rfl) : MG X B (.Subscript o i pos) (gIxT mo mi) := by
  refine ⟨pg_imp (pg_sub ho.pe hi.pe (set_anyT hu) ha) fun v σ H Q q => ?_, fun d env S Q Q' i q => ho.mono env S _ _ (fun o S1 q => hi.mono env S1 _ _ (fun j S2 q => ?_) q) q⟩
  · obtain ⟨lB, d, env, S, dv, r0, z0, q⟩ := q
    refine ⟨lB, env, S, r0, z0, ho.mono env S _ _ (fun o S1 q v1 H1 l1 z1 d1 => ?_) q⟩
    refine ⟨lB.trans l1, env, S1, r0.le l1, z1, hi.mono env S1 _ _ (fun j S2 q v2 H2 l2 z2 d2 => ?_) q⟩
    split at q
    · rename_i S3 e
      exact ⟨o, j, d, S2, S3, d1.le l2, d2, dv.le (l1.trans l2), z2, e, fun H3 l3 z3 => q _ H3 ((l1.trans l2).trans l3) (r0.le ((l1.trans l2).trans l3)) z3⟩
    · exact q.elim
  · split at q
    · exact i _ _ q
    · exact q.elim
/-! ### freeze: a dict of tuple keys becomes a value -/
def tFz (t : TE) : TE := fun σ H Q => t σ H fun x H1 => ∃ d u, H1 d = some u ∧ Mut (some u) ∧ ∀ od, Q x (upd H1 d (.frz od u))
theorem pe_fz {e : Expr} {t : TE} (h : PE X e t) : PE X e (tFz t) := ⟨fun pins s σ H Q I hw => thn (h.run pins s σ H _ I hw) fun v s1 ⟨x, H1, I1, r, d, u, hd, mu, q⟩ => by
  obtain ⟨od, I2⟩ := I1.lock hd mu
  exact ⟨x, _, I2, r, q od⟩⟩
def delS (S : Sto) (a : Addr) : Sto := fun b => if b = a then none else S b
def mFz (m : EM) : EM := fun env S Q => m env S fun d S1 => match d with
  | .ref a => match S1 a with
    | some (.dit kvs) => (∀ kv ∈ kvs, ∀ x ∈ kv.1, okK x) ∧ Q (.rod (kvs.map (·.1)) (kvs.map (·.2))) (delS S1 a)
    | _ => False
  | _ => False
theorem kvs_split {K : PySem.W.Frag} {H : Hp} {κ : Type} {ds : List (κ × D)} {vs : List (κ × V)} (h : KVs K H ds vs) : DVs K H (ds.map (·.2)) (vs.map (·.2)) ∧ (ds.map (·.1)).zip (vs.map (·.2)) = vs ∧ ds.map (·.1) = vs.map (·.1) := by
  induction h with
  | nil => exact ⟨.nil, rfl, rfl⟩
  | cons h1 _ ih => exact ⟨.cons h1 ih.1, by simp [ih.2.1], by simp [ih.2.2]⟩
theorem me_fz {e : Expr} {m : EM} (h : ME X B e m) : ME X B e (mFz m) := by
  refine ⟨pe_imp (pe_fz h.pe) fun σ H Q q => ?_, fun env S Q Q' i q => h.mono env S _ _ (fun d S1 q => ?_) q⟩
  · obtain ⟨lB, env, S, r0, z0, q⟩ := q
    refine ⟨lB, env, S, r0, z0, h.mono env S _ _ (fun d S1 q v H1 l1 z1 d1 => ?_) q⟩
    split at q
    · rename_i a
      cases d1
      split at q
      · rename_i kvs e0
        obtain ⟨vs, e1, z⟩ := z1 _ _ e0
        have mu : Mut (some (HO.dT vs)) := trivial
        refine ⟨a, _, e1, mu, fun od => ?_⟩
        have l2 : Le H1 (upd H1 a (.frz od (.dT vs))) := Le.mut (by rw [e1]; exact mu)
        obtain ⟨y1, y2, y3⟩ := kvs_split z
        refine q.2 _ _ (l1.trans l2) (fun b o eb => ?_) (.rod (vs := vs.map (·.2)) ⟨od, by rw [y2]; exact upd_same⟩ (by rw [y3]; simp) (fun k hk x hx => ?_) (y1.le l2))
        · unfold delS at eb
          split at eb
          · cases eb
          · rename_i hb
            exact (z1 b o eb).at l2 (upd_ne hb)
        · obtain ⟨kv, m1, rfl⟩ := List.mem_map.mp hk
          exact q.1 kv m1 x hx
      · exact q.elim
    · exact q.elim
  · split at q
    · split at q
      · exact ⟨q.1, i _ _ q.2⟩
      · exact q.elim
    · exact q.elim
/-! ### the frozen dict read, walked -/
def vIxR : BM := fun d e S Q => match d, keysD e with
  | .rod ks xs, some k => match valD (ks.zip xs) k with
    | some x => Q x S
    | none => False
  | _, _ => False
theorem mon_ixR : ∀ d e S (Q Q' : DQ), (∀ d S, Q d S → Q' d S) → vIxR d e S Q → vIxR d e S Q' := fun d e S Q Q' i q => by
  unfold vIxR at q ⊢
  split at q
  · split at q
    · exact i _ _ q
    · exact q.elim
  · exact q.elim
theorem kvs_zip {K : PySem.W.Frag} {H : Hp} {κ : Type} : ∀ {ks : List κ} {ds : List D} {vs : List V}, DVs K H ds vs → ks.length = vs.length → KVs K H (ks.zip ds) (ks.zip vs)
  | [], _, _, h, _ => by cases h <;> exact .nil
  | k :: ks, _, _, h, e => by
    cases h with
    | nil => simp at e
    | cons h1 h2 => exact .cons h1 (kvs_zip h2 (by simpa using e))
theorem me_ixR {a b : Expr} {ma mb : EM} (hu : X.A.units + 1 < cLine) (ha : ME X B a ma) (hb : ME X B b mb) (hs : PlainIx b := by exact fun _ _ => rfl) : ME X B (.Subscript a b pos) (mOp vIxR ma mb) := by
  refine ⟨pe_imp (pe_ix (ix_dict hu) ha.pe hb.pe hs) fun σ H Q h => up_two ha.mono hb.mono (fun x y H Q d e S h1 h2 r h => ?_) mon_ixR h, mon_op mon_ixR ha.mono hb.mono⟩
  unfold vIxR at h
  split at h
  · rename_i ks xs k ek
    split at h
    · rename_i x0 e0
      obtain ⟨c, rfl, hc⟩ := keys_dv h2 ek
      cases h1 with
      | rod hs hl hk z =>
        obtain ⟨o, hs⟩ := hs
        obtain ⟨v, e1, dv⟩ := ((kvs_zip z hl).val k).1 _ e0
        exact ⟨_, v, rfl, .inr ⟨_, k, c, .inr ⟨o, hs⟩, rfl, hc, e1.symm⟩, dn_same h r dv⟩
    · exact h.elim
  · exact h.elim
theorem dvs_kD {K : PySem.W.Frag} {H : Hp} : ∀ {k : List Key}, (∀ x ∈ k, okK x) → DVs K H (k.map kD) (k.map kV)
  | [], _ => .nil
  | x :: k, h => by
    refine .cons ?_ (dvs_kD fun y hy => h y (List.mem_cons_of_mem _ hy))
    cases x with
    | inl i => exact .int i
    | inr s => exact .str s (h (.inr s) (List.mem_cons_self ..))
theorem wk_rod {K : PySem.W.Frag} {P : Program} {w : World} {H1 : Hp} {a : Addr} {o : Obj} {ks : List (List Key)} {vs : List V} (hs : H1 a = some (.frz o (.dT (ks.zip vs)))) (hl : ks.length = vs.length) (hk : ∀ k ∈ ks, ∀ x ∈ k, okK x) :
    WkD K P w H1 (Itkt a o (ks.zip vs)) (ks.map fun k => .tup (k.map kD)) fun _ => True where
  go := fun i S H hi l r _ => ⟨l.frz _ _ _ hs, by simp at hi; simp [← hl]; exact hi⟩
  stop := fun S H l r _ => ⟨l.frz _ _ _ hs, by simp [← hl]⟩
  yld := fun i S H x H' hi l r _ y => by
    obtain ⟨rfl, k, v, q, e, rfl, eq⟩ := y
    have ek : ks[i]? = some k := by
      rw [List.getElem?_zip_eq_some] at e
      exact e.1
    refine ⟨Le.refl _, r, .tup (k.map kD), by rw [List.getElem?_map, ek]; rfl, ?_⟩
    exact .tup (SqT.of eq) (dvs_kD (hk k (List.mem_of_getElem? ek))) eq
def iRod (m : EM) : IM := fun env S R => m env S fun d S1 => match d with
  | .rod ks _ => R (ks.map fun k => .tup (k.map kD)) (fun _ => True) S1
  | _ => False
theorem mi_rod {tg l : Expr} {m : EM} (h : ME X B l m) : MI X B tg l (iRod m) := by
  refine ⟨pi_imp (pi_keys h.pe) fun σ H R q => ?_, fun env S Q Q' i q => h.mono env S _ _ (fun d S1 q => ?_) q⟩
  · obtain ⟨lB, env, S, r0, z0, q⟩ := q
    refine ⟨lB, env, S, r0, z0, h.mono env S _ _ (fun d S1 q v H1 l1 z1 d1 => ?_) q⟩
    split at q
    · cases d1 with
      | rod hs hl hk z =>
        obtain ⟨o, hs⟩ := hs
        exact ⟨_, o, rfl, .inr ⟨_, hs, q _ H1 l1 z1 (wk_rod hs hl hk)⟩⟩
    · exact q.elim
  · split at q
    · exact i _ _ _ q
    · exact q.elim
end
/-! ### [e for x in xs if .. for y in ys if ..] -/
def lcI (g : GM) (t : TM) (m : EM) (G : Sto → Prop) (p : Addr) (N : Sto → Prop) (env : Slo) : List D → Sto → Prop
  | [], S => G S ∧ N S
  | x :: xs, S => G S ∧ g x env S fun env2 S2 => t env2 S2 fun b S3 => match b with
    | true => m env2 S3 fun d S4 => match S4 p with
      | some (.lst ys) => ys.length < sizeLine ∧ lcI g t m G p N env xs (put S4 p (.lst (ys ++ [d])))
      | _ => False
    | false => lcI g t m G p N env xs S3
def lcO (g : GM) (t : TM) (mi1 : IM) (g1 : GM) (t1 : TM) (m : EM) (vs1 : List Nat) (G : Sto → Prop) (p : Addr) (Q : DQ) (env : Slo) : List D → Sto → Prop
  | [], S => G S ∧ Q (.ref p) S
  | x :: xs, S => G S ∧ g x env S fun env2 S2 => t env2 S2 fun b S3 => match b with
    | true => mi1 env2 S3 fun ys G1 S4 => lcI g1 t1 m G1 p (lcO g t mi1 g1 t1 m vs1 G p Q env xs) (wipeD env2 vs1) ys S4
    | false => lcO g t mi1 g1 t1 m vs1 G p Q env xs S3
def mLc2 (mi : IM) (g : GM) (t : TM) (mi1 : IM) (g1 : GM) (t1 : TM) (m : EM) (vs vs1 : List Nat) : EM := fun env S Q => mi env S fun xs G S1 => ∀ p, S1 p = none → lcO g t mi1 g1 t1 m vs1 G p Q (wipeD env vs) xs (put S1 p (.lst []))
section
abbrev MonG (g : GM) : Prop := ∀ d env S (Q Q' : Slo → Sto → Prop), (∀ e S, Q e S → Q' e S) → g d env S Q → g d env S Q'
abbrev MonI (mi : IM) : Prop := ∀ env S (Q Q' : List D → (Sto → Prop) → Sto → Prop), (∀ xs G S, Q xs G S → Q' xs G S) → mi env S Q → mi env S Q'
variable {X : Cx} {B : Hp} {elt tg iter tg1 iter1 : Expr} {ifs ifs1 : List Expr} {scope : Scope} {own : List (Str × Nat)} {pos : Pos} {mi mi1 : IM} {g g1 : GM} {t t1 : TM} {m : EM} {vs1 : List Nat}
theorem lcI_mono {G : Sto → Prop} {p : Addr} {env : Slo} {N N' : Sto → Prop} (hg : MonG g) (ht : MonT t) (hm : MonE m) (i : ∀ S, N S → N' S) : ∀ xs S, lcI g t m G p N env xs S → lcI g t m G p N' env xs S
  | [], S, h => ⟨h.1, i _ h.2⟩
  | x :: xs, S, h => ⟨h.1, hg _ _ _ _ _ (fun e s q => ht _ _ _ _ (fun b S3 q => by
      cases b with
      | true =>
        refine hm _ _ _ _ (fun d S4 q => ?_) q
        split at q
        · exact ⟨q.1, lcI_mono hg ht hm i xs _ q.2⟩
        · exact q.elim
      | false => exact lcI_mono hg ht hm i xs _ q) q) h.2⟩
theorem lcO_mono {G : Sto → Prop} {p : Addr} {env : Slo} {Q Q' : DQ} (hg : MonG g) (ht : MonT t) (hi1 : MonI mi1) (hg1 : MonG g1) (ht1 : MonT t1) (hm : MonE m) (i : ∀ d S, Q d S → Q' d S) : ∀ xs S, lcO g t mi1 g1 t1 m vs1 G p Q env xs S → lcO g t mi1 g1 t1 m vs1 G p Q' env xs S
  | [], S, h => ⟨h.1, i _ _ h.2⟩
  | x :: xs, S, h => ⟨h.1, hg _ _ _ _ _ (fun e s q => ht _ _ _ _ (fun b S3 q => by
      cases b with
      | true => exact hi1 _ _ _ _ (fun ys G1 S4 q => lcI_mono hg1 ht1 hm (fun S5 q => lcO_mono hg ht hi1 hg1 ht1 hm i xs _ q) _ _ q) q
      | false => exact lcO_mono hg ht hi1 hg1 ht1 hm i xs _ q) q) h.2⟩
theorem up_lc2 {K : PySem.W.Frag} {P : Program} {w : World} {wi wi1 : TI} {tt tt1 : TG} {vs : List Nat} (hwi : ∀ σ H R, (Le B H ∧ ∃ env S, EnvR K H env σ ∧ Rp K P w S H ∧ mi env S fun xs G S1 => ∀ J H1, Le H H1 → Rp K P w S1 H1 → WkD K P w H1 J xs G → R J H1) → wi σ H R)
    (hwi1 : ∀ σ H R, (Le B H ∧ ∃ env S, EnvR K H env σ ∧ Rp K P w S H ∧ mi1 env S fun xs G S1 => ∀ J H1, Le H H1 → Rp K P w S1 H1 → WkD K P w H1 J xs G → R J H1) → wi1 σ H R)
    (hmi : MonI mi) (hmi1 : MonI mi1) (bt : BT K vs tt g) (bt1 : BT K vs1 tt1 g1) (ht : MonT t) (ht1 : MonT t1) (hm : MonE m) {σ : L2.St} {H : Hp} {Q : VK}
    (q : up K P w B (mLc2 mi g t mi1 g1 t1 m vs vs1) σ H Q) : tLc2 wi tt (upT K P w B t) wi1 tt1 (upT K P w B t1) (up K P w B m) vs vs1 σ H Q := by
  obtain ⟨lB, env, S, r0, z0, q⟩ := q
  refine hwi _ _ _ ⟨lB, env, S, r0, z0, hmi _ _ _ _ (fun xs G S1 q J H1 l1 z1 wk => ?_) q⟩
  intro p hp
  have l2 : Le H1 (upd H1 p (.lst [])) := Le.new hp
  have z2 : Rp K P w (put S1 p (.lst [])) (upd H1 p (.lst [])) := z1.new hp ⟨[], upd_same, .nil⟩
  have q := q p (z1.free hp)
  refine ⟨fun i k H' => i ≤ xs.length ∧ k = xs.length - i ∧ Le (upd H1 p (.lst [])) H' ∧ ∃ S, Rp K P w S H' ∧ lcO g t mi1 g1 t1 m vs1 G p (dnE K P w H Q) (wipeD env vs) (xs.drop i) S, ⟨xs.length, Nat.zero_le _, rfl, Le.refl _, _, z2, q⟩, fun i k H' h => ?_⟩
  obtain ⟨hi, rfl, l3, S, z3, q⟩ := h
  have l23 := l2.trans l3
  by_cases hlt : i < xs.length
  · have ed : xs.drop i = xs[i] :: xs.drop (i + 1) := List.drop_eq_getElem_cons hlt
    rw [ed] at q
    refine .inr ⟨wk.go i S H' hlt l23 z3 q.1, fun H' => Le (upd H1 p (.lst [])) H' ∧ ∃ S, Rp K P w S H' ∧ lcO g t mi1 g1 t1 m vs1 G p (dnE K P w H Q) (wipeD env vs) (xs.drop (i + 1)) S, fun H3 h => ⟨xs.length - (i + 1), by omega, hlt, rfl, h⟩, fun x H3 hy => ?_⟩
    obtain ⟨l4, z4, d, ex, dv⟩ := wk.yld i S H' x H3 hlt l23 z3 q.1 hy
    have e' : d = xs[i] := by
      rw [List.getElem?_eq_getElem hlt] at ex
      exact (Option.some.inj ex).symm
    subst e'
    have l04 := l1.trans (l23.trans l4)
    refine bt.mt _ _ _ _ _ (fun σ2 H2 z => ?_) (bt.td _ x _ _ S H3 _ dv ((r0.le l04).wipe vs) q.2)
    obtain ⟨e2, rfl, env2, r2, q2⟩ := z
    refine ⟨e2.trans wipe_wipe, lB.trans l04, env2, S, r2, z4, ht _ _ _ _ (fun b S3 q H5 l5 z5 => ?_) q2⟩
    cases b with
    | false => exact ⟨l3.trans (l4.trans l5), S3, z5, q⟩
    | true =>
      refine hwi1 _ _ _ ⟨lB.trans (l04.trans l5), env2, S3, r2.le l5, z5, hmi1 _ _ _ _ (fun ys G1 S4 q J1 H6 l6 z6 wk1 => ?_) q⟩
      refine ⟨fun j k H' => j ≤ ys.length ∧ k = ys.length - j ∧ Le H6 H' ∧ ∃ S, Rp K P w S H' ∧ lcI g1 t1 m G1 p (lcO g t mi1 g1 t1 m vs1 G p (dnE K P w H Q) (wipeD env vs) (xs.drop (i + 1))) (wipeD env2 vs1) (ys.drop j) S, ⟨ys.length, Nat.zero_le _, rfl, Le.refl _, _, z6, q⟩, fun j k H7 h => ?_⟩
      obtain ⟨hj, rfl, l7, S7, z7, q⟩ := h
      by_cases hjl : j < ys.length
      · have ej : ys.drop j = ys[j] :: ys.drop (j + 1) := List.drop_eq_getElem_cons hjl
        rw [ej] at q
        refine .inr ⟨wk1.go j S7 H7 hjl l7 z7 q.1, fun H' => Le H6 H' ∧ ∃ S, Rp K P w S H' ∧ lcI g1 t1 m G1 p (lcO g t mi1 g1 t1 m vs1 G p (dnE K P w H Q) (wipeD env vs) (xs.drop (i + 1))) (wipeD env2 vs1) (ys.drop (j + 1)) S, fun H3 h => ⟨ys.length - (j + 1), by omega, hjl, rfl, h⟩, fun x H8 hy => ?_⟩
        obtain ⟨l8, z8, d, ex, dv⟩ := wk1.yld j S7 H7 x H8 hjl l7 z7 q.1 hy
        have e' : d = ys[j] := by
          rw [List.getElem?_eq_getElem hjl] at ex
          exact (Option.some.inj ex).symm
        subst e'
        have l08 := l5.trans (l6.trans (l7.trans l8))
        refine bt1.mt _ _ _ _ _ (fun σ3 H9 z => ?_) (bt1.td _ x _ _ S7 H8 _ dv ((r2.le l08).wipe vs1) q.2)
        obtain ⟨e3, rfl, env3, r3, q3⟩ := z
        refine ⟨e3.trans wipe_wipe, lB.trans (l04.trans l08), env3, S7, r3, z8, ht1 _ _ _ _ (fun b S9 q H10 l9 z9 => ?_) q3⟩
        cases b with
        | false => exact ⟨l7.trans (l8.trans l9), S9, z9, q⟩
        | true =>
          refine ⟨lB.trans (l04.trans (l08.trans l9)), env3, S9, r3.le l9, z9, hm _ _ _ _ (fun d S10 q v H11 l10 z10 d10 => ?_) q⟩
          split at q
          · rename_i us0 ey
            obtain ⟨us, f1, f2⟩ := z10 _ _ ey
            have hmut : Mut (H11 p) := by rw [f1]; exact trivial
            have l11 := Le.mut (o := .lst (us ++ [v])) hmut
            exact ⟨us, f1, by rw [← f2.length]; exact q.1, l7.trans (l8.trans (l9.trans (l10.trans l11))), _, z10.wr (o := .lst (us0 ++ [d])) hmut ⟨_, upd_same, (f2.append (.cons d10 .nil)).le l11⟩, q.2⟩
          · exact q.elim
      · have ei : j = ys.length := by omega
        subst ei
        rw [List.drop_length] at q
        exact .inl ⟨wk1.stop S7 H7 l7 z7 q.1, l3.trans (l4.trans (l5.trans (l6.trans l7))), S7, z7, q.2⟩
  · have ei : i = xs.length := by omega
    subst ei
    rw [List.drop_length] at q
    exact .inl ⟨wk.stop S H' l23 z3 q.1, q.2 _ H' (l1.trans l23) z3 (.ref p)⟩
theorem mon_lc2 {vs : List Nat} (hmi : MonI mi) (hg : MonG g) (ht : MonT t) (hi1 : MonI mi1) (hg1 : MonG g1) (ht1 : MonT t1) (hm : MonE m) : MonE (mLc2 mi g t mi1 g1 t1 m vs vs1) := fun env S Q Q' i q =>
  hmi _ _ _ _ (fun xs G S1 q p hp => lcO_mono hg ht hi1 hg1 ht1 hm i _ _ (q p hp)) q
abbrev wiOf2 (X : Cx) (B : Hp) (mi : IM) : TI := fun σ H R => Le B H ∧ ∃ env S, EnvR X.K H env σ ∧ Rp X.K X.prog X.w S H ∧ mi env S fun xs G S1 => ∀ J H1, Le H H1 → Rp X.K X.prog X.w S1 H1 → WkD X.K X.prog X.w H1 J xs G → R J H1
theorem me_lc2 {tt tt1 : TG} (hc : X.calm = true) (hN : X.N.Nodup) (hi : MI X B tg iter mi) (ok : BlkOk X.N X.env.scope scope own) (bt : BT X.K (own.map (·.2)) tt g) (bt1 : BT X.K vs1 tt1 g1)
    (hg : Blk X scope fun Y => PG Y tg tt) (hm : Blk X scope fun Y => MTs Y B ifs t) (hi1 : Blk X scope fun Y => MI Y B tg1 iter1 mi1) (hg1 : Blk X scope fun Y => PG Y tg1 tt1) (hm1 : Blk X scope fun Y => MTs Y B ifs1 t1) (he : Blk X scope fun Y => ME Y B elt m)
    (hv : ∀ i ∈ vs1, i ∈ own.map (·.2) := by decide) (hs : ∀ x, foldedSetIterable iter X.env x = pure x := by intro _; rfl) (hs1 : ∀ env x, foldedSetIterable iter1 env x = pure x := by intro _ _; rfl) :
    ME X B (.ListComp elt [⟨tg, iter, ifs, 0⟩, ⟨tg1, iter1, ifs1, 0⟩] scope pos) (mLc2 mi g t mi1 g1 t1 m (own.map (·.2)) vs1) := by
  have m1 : MonT t := (hm X.s_0 (fun _ => none) 0 [] []).mono
  have m2 : MonE m := (he X.s_0 (fun _ => none) 0 [] []).mono
  have m3 : MonT t1 := (hm1 X.s_0 (fun _ => none) 0 [] []).mono
  have m4 : MonI mi1 := (hi1 X.s_0 (fun _ => none) 0 [] []).mono
  exact ⟨pe_imp (pe_lc2 (wi := wiOf2 X B mi) (wi1 := wiOf2 X B mi1) hc hN hi.pi ok hv hg (fun s H C cl fp => (hm s H C cl fp).pts) (fun s H C cl fp => (hi1 s H C cl fp).pi) hg1 (fun s H C cl fp => (hm1 s H C cl fp).pts) (fun s H C cl fp => (he s H C cl fp).pe) hs hs1)
    fun σ H Q q => up_lc2 (fun _ _ _ z => z) (fun _ _ _ z => z) hi.mono m4 bt bt1 m1 m3 m2 q, mon_lc2 hi.mono bt.mg m1 m4 bt1.mg m3 m2⟩
theorem ms_setLc2 {tt tt1 : TG} {i : Nat} {y : Str} {py spos : Pos} (hc : X.calm = true) (hN : X.N.Nodup) (hi : MI X B tg iter mi) (ok : BlkOk X.N X.env.scope scope own) (bt : BT X.K (own.map (·.2)) tt g) (bt1 : BT X.K vs1 tt1 g1)
    (hg : Blk X scope fun Y => PG Y tg tt) (hm : Blk X scope fun Y => MTs Y B ifs t) (hi1 : Blk X scope fun Y => MI Y B tg1 iter1 mi1) (hg1 : Blk X scope fun Y => PG Y tg1 tt1) (hm1 : Blk X scope fun Y => MTs Y B ifs1 t1) (he : Blk X scope fun Y => ME Y B elt m)
    (hv : ∀ i ∈ vs1, i ∈ own.map (·.2) := by decide) (hy : X.N[i]? = some y := by rfl) (hyl : X.env.scope.names.lookup y = some .local := by rfl)
    (hsw : swapsWith (.ListComp elt [⟨tg, iter, ifs, 0⟩, ⟨tg1, iter1, ifs1, 0⟩] scope pos) (some (.Name y py)) spos.line X.env = pure true := by rfl) (hs : ∀ x, foldedSetIterable iter X.env x = pure x := by intro _; rfl) (hs1 : ∀ env x, foldedSetIterable iter1 env x = pure x := by intro _ _; rfl) :
    MS X B (.Assign [.Name y py] (.ListComp elt [⟨tg, iter, ifs, 0⟩, ⟨tg1, iter1, ifs1, 0⟩] scope pos) spos) (mAsg (mLc2 mi g t mi1 g1 t1 m (own.map (·.2)) vs1) (gNm i)) := by
  have m1 : MonT t := (hm X.s_0 (fun _ => none) 0 [] []).mono
  have m2 : MonE m := (he X.s_0 (fun _ => none) 0 [] []).mono
  have m3 : MonT t1 := (hm1 X.s_0 (fun _ => none) 0 [] []).mono
  have m4 : MonI mi1 := (hi1 X.s_0 (fun _ => none) 0 [] []).mono
  have m5 := mon_lc2 (vs := own.map (·.2)) (vs1 := vs1) hi.mono bt.mg m1 m4 bt1.mg m3 m2
  refine ⟨ps_imp (ps_setLc2 (tt := upT X.K X.prog X.w B t) (tt1 := upT X.K X.prog X.w B t1) (te := up X.K X.prog X.w B m) (wi := wiOf2 X B mi) (wi1 := wiOf2 X B mi1) hc hN hy hyl hsw hi.pi ok hv hg (fun s H C cl fp => (hm s H C cl fp).pts) (fun s H C cl fp => (hi1 s H C cl fp).pi) hg1 (fun s H C cl fp => (hm1 s H C cl fp).pts) (fun s H C cl fp => (he s H C cl fp).pe) hs hs1)
    fun D σ H q => ?_, fun A B env S l q => m5 _ _ _ _ (fun d S1 q => l.nx _ _ q) q⟩
  obtain ⟨lB, env, S, r0, z0, q⟩ := q
  refine up_lc2 (B := B) (mi := mi) (mi1 := mi1) (g := g) (t := t) (g1 := g1) (t1 := t1) (m := m) (fun _ _ _ z => z) (fun _ _ _ z => z) hi.mono m4 bt bt1 m1 m3 m2 ⟨lB, env, S, r0, z0, m5 _ _ _ _ (fun d S1 q v H1 l z dv => ?_) q⟩
  exact q _ H1 l ((r0.le l).set dv i) z
end
end DL

set_option Elab.async false
set_option linter.all false
set_option maxRecDepth 100000
set_option maxHeartbeats 4000000
/-! DL23: t[::-1] of a tuple. -/
namespace DL
open PySem PySem.Spec PyProof.Rows L2
theorem rev_places (n : Nat) : Builtin.Slice.slicePlaces ((n : Int) - 1) (-1) (-1) = n := by
  unfold Builtin.Slice.slicePlaces
  simp
  try omega
theorem rev_adjust (n : Nat) : Builtin.Slice.sliceAdjust none none (-1) (n : Int) = ((n : Int) - 1, -1) := by
  unfold Builtin.Slice.sliceAdjust
  simp
theorem rev_pick (xs : Array Value) : ((List.range xs.size).filterMap fun (k : Nat) => xs[((xs.size : Int) - 1 + (k : Int) * (-1)).toNat]?).toArray = xs.toList.reverse.toArray := by
  congr 1
  have e : (List.range xs.size).filterMap (fun (k : Nat) => xs[((xs.size : Int) - 1 + (k : Int) * (-1)).toNat]?) = ((List.range xs.size).map fun k => xs.size - 1 - k).filterMap (xs[·]?) := by
    rw [List.filterMap_map]
    have go : ∀ l : List Nat, (∀ k ∈ l, k < xs.size) → l.filterMap (fun (k : Nat) => xs[((xs.size : Int) - 1 + (k : Int) * (-1)).toNat]?) = l.filterMap ((xs[·]?) ∘ fun k => xs.size - 1 - k) := by
      intro l
      induction l with
      | nil => intro _; rfl
      | cons k l ih =>
        intro hl
        have hk := hl k (List.mem_cons_self ..)
        have e1 : ((xs.size : Int) - 1 + (k : Int) * (-1)).toNat = xs.size - 1 - k := by omega
        rw [List.filterMap_cons, List.filterMap_cons, ih fun z hz => hl z (List.mem_cons_of_mem _ hz)]
        simp only [e1, Function.comp]
    exact go _ fun k hk => List.mem_range.mp hk
  rw [e, PySem.W.krv_range, List.filterMap_reverse, PySem.W.krv_all]
section
variable {prog : Program} {w : World} {A : Around} {E : Value → Shared → Prop} {s : Shared}
theorem applied_rev {sl : Addr} {vl vu vs : Value} {n : Nat} {Q : Int × Int × Nat → Shared → Prop} (hs : s.heap.IsSliceOf sl vl vu vs) (pl : IsPart vl none) (pu : IsPart vu none) (ps : IsPart vs (some (-1)))
    (h : Q ((n : Int) - 1, -1, n) s) : wpAny (model prog w) A (Builtin.Slice.sliceApplied (.ref sl) (pure (n : Int))) Q E s := by
  obtain ⟨os, hos, _, hds⟩ := id hs
  unfold Builtin.Slice.sliceApplied Builtin.Slice.sliceFields
  refine wpAny_bind (wpAny_bind (wpAny_field hos hds (x := vl) rfl (wpAny_bind (wpAny_field hos hds (x := vu) rfl (wpAny_bind (wpAny_field hos hds (x := vs) rfl (wpAny_pure ?_)))))))
  refine wpAny_bind (HT.slicePart_ ps ?_)
  show wpAny _ _ (if ((-1 : Int) == 0) = true then _ else _) _ _ s
  rw [if_neg (by decide)]
  refine wpAny_bind (HT.slicePart_ pl (wpAny_bind (HT.slicePart_ pu (wpAny_bind (wpAny_pure ?_)))))
  show wpAny _ _ (match Builtin.Slice.sliceAdjust none none (-1) (n : Int) with | (lo, hi) => pure (lo, (-1 : Int), Builtin.Slice.slicePlaces lo hi (-1))) _ _ s
  rw [rev_adjust n]
  show wpAny _ _ (pure ((n : Int) - 1, (-1 : Int), Builtin.Slice.slicePlaces ((n : Int) - 1) (-1) (-1))) _ _ s
  rw [rev_places]
  exact wpAny_pure h
theorem item_rev {t sl : Addr} {items : Array Value} {vl vu vs : Value} {Q : Value → Shared → Prop} (ht : IsTup s.heap t items) (hs : s.heap.IsSliceOf sl vl vu vs) (pl : IsPart vl none) (pu : IsPart vu none) (ps : IsPart vs (some (-1)))
    (h : Q (.ref s.heap.objs.size) { s with heap := s.heap.push { cls := .type "tuple", data := .seq items.toList.reverse.toArray } })
    (hsz : items.size ≤ sizeLine) : wpAny (model prog w) A (getItem (.ref t) (.ref sl)) Q E s := by
  have hok : sizeOk (.seq items.toList.reverse.toArray) := by
    show items.toList.reverse.toArray.size ≤ sizeLine
    rw [List.size_toArray, List.length_reverse, Array.length_toList]
    exact hsz
  obtain ⟨os, hos, hcs, hds⟩ := id hs
  have hTs : s.TypeIs (.ref sl) "slice" := ⟨os, hos, hcs⟩
  unfold getItem
  try with_reducible refine wpAny_holding ?_
  first | refine wpAny_bind (wpAny_pure ?_) | skip
  refine wpAny_bind (wpAny_sequenceKey ht.typeIs (by decide) ?_)
  refine wpAny_bind (wpAny_callSpecial?_slot (name := Str.ofString "__getitem__") ht.typeIs PyProof.Rows.slot_tuple_getitem
    (wpAny_call_entry PyProof.Rows.slot_tuple_getitem ht.typeIs PyProof.Rows.entry_tuple_getitem ?_ (PyProof.Rows.args_tuple_getitem _ _)))
  show wpAny _ _ (Builtin.Tuple.tupleItemsOf (.ref t) >>= _) _ _ s
  refine wpAny_bind (PyProof.Rows.tupleItemsOf_ ht ?_)
  refine wpAny_bind (wpAny_typeOf hTs ?_)
  rw [if_pos (by decide)]
  refine wpAny_bind (applied_rev hs pl pu ps ?_)
  have hno : ¬ (((items.size : Int) - 1 == 0 && (-1 : Int) == 1 && items.size == items.size) = true) := by
    intro q
    rw [Bool.and_eq_true, Bool.and_eq_true] at q
    exact absurd (eq_of_beq q.1.2) (by decide)
  show wpAny _ _ (if ((items.size : Int) - 1 == 0 && (-1 : Int) == 1 && items.size == items.size) = true then _ else _) _ _ s
  rw [if_neg hno, rev_pick]
  first
    | exact wpAny_bind (m := Builtin.Tuple.tupleExact _) (wpAny_newObj_type (wpAny_pure ⟨_, rfl, wpAny_pure h⟩) hok)
    | exact wpAny_bind (m := Builtin.Tuple.tupleExact _) (wpAny_newObj_type (wpAny_bind (wpAny_pure (wpAny_pure ⟨_, rfl, wpAny_pure h⟩))) hok)
    | exact wpAny_bind (wpAny_bind (m := Builtin.Tuple.tupleExact _) (wpAny_newObj_type (wpAny_pure (wpAny_pure ⟨_, rfl, wpAny_pure h⟩)) hok))
    | exact wpAny_bind (wpAny_bind (m := Builtin.Tuple.tupleExact _) (wpAny_newObj_type (wpAny_pure ⟨_, rfl, wpAny_pure h⟩) hok))
end
section
variable {X : Cx} {B : Hp}
def tRevT (K : PySem.W.Frag) (te : TE) : TE := fun σ H Q => te σ H fun x H1 => ∃ a xs, x = .ref a ∧ SqT K H1 a xs ∧ ∀ p, H1 p = none → Q (.ref p) (upd H1 p (.tup xs.reverse))
theorem pe_revT {e : Expr} {te : TE} {k : Nat} {p1 p2 p3 pos : Pos} (he : PE X e te) : PE X (.Subscript e (.Slice none none (some (.UnaryOp .USub (.Constant (.int 1) k p1) p2)) p3) pos) (tRevT X.K te) := by
  refine ⟨fun pins s σ H Q I h => ?_⟩
  refine Subscript_ (thn (he.run pins s σ H _ I h) fun v s1 ⟨x, H1, I1, r1, q1⟩ => ?_)
  obtain ⟨a, xs, ex, hx, q⟩ := q1
  subst ex
  cases r1
  have hst : PO X (some (.UnaryOp .USub (.Constant (.int 1) k p1) p2)) (tPart (tUn (rU fun i => .int (-i)) (tC (.int 1)))) := po_some (pe_un un_neg pe_int)
  refine wpAny_Slice (thn (po_none.run pins s1 σ H1 (fun o H2 => o = none ∧ H2 = H1) I1 ⟨rfl, rfl⟩) fun vl s2 ⟨l, H2, I2, pl, el, e2⟩ => ?_)
  subst el e2
  refine thn (po_none.run pins s2 σ H2 (fun o H3 => o = none ∧ H3 = H2) I2 ⟨rfl, rfl⟩) fun vu s3 ⟨u, H3, I3, pu, eu, e3⟩ => ?_
  subst eu e3
  refine thn (hst.run pins s3 σ H3 (fun o H4 => o = some (-1) ∧ H4 = H3) I3 ⟨1, rfl, -1, rfl, rfl, rfl⟩) fun vs s4 ⟨o, H4, I4, ps, eo, e4⟩ => ?_
  subst eo e4
  have I5 : Inv X pins σ H4 { s4 with heap := s4.heap.push { cls := .type "slice", data := .fields #[vl, vu, vs] } } := I4.kept (t' := s4.toks) fun b ob q => Heap.get?_push_of_some _ q
  obtain ⟨its, r, ht, hz⟩ := I5.tuple hx
  have hlen := r.length
  show wpAny (model X.prog X.w) X.A (subscriptTail e (.Slice none none (some (.UnaryOp .USub (.Constant (.int 1) k p1) p2)) p3) (.ref a) (.ref s4.heap.objs.size)) (EP X pins σ Q) X.xe { s4 with heap := s4.heap.push { cls := .type "slice", data := .fields #[vl, vu, vs] } }
  refine tail_any (ops := [.ref a, .ref s4.heap.objs.size]) ht.typeIs (PyProof.Rows.slot_tuple_getitem.lookup) ?_ (by with_unfolding_all rfl)
  refine item_rev ht (Heap.IsSliceOf.new _ vl vu vs) pl pu ps ?_ (by rw [List.size_toArray]; omega)
  refine ⟨.ref _, _, I5.laid (t' := s4.toks) (o := .tup xs.reverse) (fun b ob q => Heap.get?_push_of_some _ q) (Nat.le_refl _) ?_, rfl, q _ (I5.hok.fresh (Nat.le_refl _))⟩
  exact ⟨by rw [List.length_reverse]; exact hz, _, r.reverse, IsTup.new _ _⟩
def mRevT (m : EM) : EM := fun env S Q => m env S fun d S1 => match d with
  | .tp _ xs => Q (.tup xs.reverse) S1
  | _ => False
theorem me_revT {e : Expr} {m : EM} {k : Nat} {p1 p2 p3 pos : Pos} (h : ME X B e m) : ME X B (.Subscript e (.Slice none none (some (.UnaryOp .USub (.Constant (.int 1) k p1) p2)) p3) pos) (mRevT m) := by
  refine ⟨pe_imp (pe_revT h.pe) fun σ H Q q => ?_, fun env S Q Q' i q => h.mono env S _ _ (fun d S1 q => ?_) q⟩
  · obtain ⟨lB, env, S, r0, z0, q⟩ := q
    refine ⟨lB, env, S, r0, z0, h.mono env S _ _ (fun d S1 q v H1 l1 z1 d1 => ?_) q⟩
    split at q
    · cases d1 with
      | tup s z t => exact ⟨_, _, rfl, s, fun p hp => q _ _ (l1.trans (Le.new hp)) (z1.more hp) (.tup (.inl (.inl upd_same)) (z.reverse.le (Le.new hp)) upd_same)⟩
    · exact q.elim
  · split at q
    · exact i _ _ q
    · exact q.elim
/-! ### steps -/
end
section
variable {env : Slo} {S : Sto} {Q : DQ} {A : Fin} {me mo mi' : EM} {ms : AM} {d e : D} {a b p : Addr} {xs ys : List D} {bs : List Bool} {R : List D → (Sto → Prop) → Sto → Prop} {ks : List (List Key)} {kvs : List (List Key × D)} {k : List Key} {NQ : Slo → Sto → Prop}
theorem s_all (e0 : S a = some (.lst (bs.map D.bl))) (h : Q (.bl (bs.all id)) S) : vAll [.ref a] S Q := ⟨bs, e0, h⟩
theorem s_any (e0 : S a = some (.lst (bs.map D.bl))) (h : Q (.bl (bs.any id)) S) : vAny [.ref a] S Q := ⟨bs, e0, h⟩
theorem s_tupN (e0 : S a = some (.lst xs)) (h : Q (.tp true xs) S) : vTupN [.ref a] S Q := ⟨xs, e0, h⟩
theorem s_idx {zs : List Str} {z : Str} {j : Nat} (e0 : zs[j]? = some z) (h0 : ∀ m, m < j → zs[m]? ≠ some z) (h : Q (.int (j : Nat)) S) : rIdx (.tp true (zs.map D.str)) [.str z] S Q := ⟨zs, j, rfl, e0, h0, h⟩
def kZL (R : List D → (Sto → Prop) → Sto → Prop) : List D → Sto → Prop := fun ds S1 => match ds with
  | [.ref a, .ref b] => ∃ xs ys, S1 a = some (.lst xs) ∧ S1 b = some (.lst ys) ∧ R (List.zipWith (fun x y => .tup [x, y]) xs ys) (fun S => S a = some (.lst xs) ∧ S b = some (.lst ys)) S1
  | _ => False
theorem s_iZipL (h : ms env S (kZL R)) : iZipL ms env S R := h
theorem s_kZL (e1 : S a = some (.lst xs)) (e2 : S b = some (.lst ys)) (h : R (List.zipWith (fun x y => .tup [x, y]) xs ys) (fun S => S a = some (.lst xs) ∧ S b = some (.lst ys)) S) : kZL R [.ref a, .ref b] S := ⟨xs, ys, e1, e2, h⟩
theorem s_dnewT (h : ∀ p, S p = none → Q (.ref p) (put S p (.dit []))) : mDNewT env S Q := h
def kGT2 (d o : D) (env : Slo) (NQ : Slo → Sto → Prop) : DQ := fun i S2 => match setT S2 o i d with
  | some S3 => NQ env S3
  | none => False
def kGT1 (d : D) (mi : EM) (env : Slo) (NQ : Slo → Sto → Prop) : DQ := fun o S1 => mi env S1 (kGT2 d o env NQ)
theorem s_gIxT (h : mo env S (kGT1 d mi' env NQ)) : gIxT mo mi' d env S NQ := h
theorem s_kGT1 (h : mi' env S (kGT2 d e env NQ)) : kGT1 d mi' env NQ e S := h
theorem s_kGT2 {v : D} (ek : keysD d = some k) (e0 : S a = some (.dit kvs)) (hl : kvs.length < sizeLine) (h : NQ env (put S a (.dit (putD kvs k v)))) : kGT2 v (.ref a) env NQ d S := by
  unfold kGT2 setT
  rw [ek]
  simp only [e0, if_pos hl]
  exact h
def kFz (Q : DQ) : DQ := fun d S1 => match d with
  | .ref a => match S1 a with
    | some (.dit kvs) => (∀ kv ∈ kvs, ∀ x ∈ kv.1, okK x) ∧ Q (.rod (kvs.map (·.1)) (kvs.map (·.2))) (delS S1 a)
    | _ => False
  | _ => False
theorem s_fz (h : me env S (kFz Q)) : mFz me env S Q := h
theorem s_kFz (e0 : S a = some (.dit kvs)) (ok : ∀ kv ∈ kvs, ∀ x ∈ kv.1, okK x) (h : Q (.rod (kvs.map (·.1)) (kvs.map (·.2))) (delS S a)) : kFz Q (.ref a) S := by
  unfold kFz
  simp only [e0]
  exact ⟨ok, h⟩
theorem s_ixRod (ek : keysD d = some k) (e0 : valD (ks.zip xs) k = some e) (h : Q e S) : vIxR (.rod ks xs) d S Q := by
  unfold vIxR
  rw [ek]
  simp only [e0]
  exact h
def kRod (R : List D → (Sto → Prop) → Sto → Prop) : DQ := fun d S1 => match d with
  | .rod ks _ => R (ks.map fun k => .tup (k.map kD)) (fun _ => True) S1
  | _ => False
theorem s_iRod (h : me env S (kRod R)) : iRod me env S R := h
theorem s_kRod (h : R (ks.map fun k => .tup (k.map kD)) (fun _ => True) S) : kRod R (.rod ks xs) S := h
def kRevT (Q : DQ) : DQ := fun d S1 => match d with
  | .tp _ xs => Q (.tup xs.reverse) S1
  | _ => False
theorem s_revT (h : me env S (kRevT Q)) : mRevT me env S Q := h
theorem s_kRevT {f : Bool} (h : Q (.tup xs.reverse) S) : kRevT Q (.tp f xs) S := h
def kLc2 (g : GM) (t : TM) (mi1 : IM) (g1 : GM) (t1 : TM) (m : EM) (vs vs1 : List Nat) (env : Slo) (Q : DQ) : List D → (Sto → Prop) → Sto → Prop := fun xs G S1 => ∀ p, S1 p = none → lcO g t mi1 g1 t1 m vs1 G p Q (wipeD env vs) xs (put S1 p (.lst []))
theorem s_lc2 {mi mi1 : IM} {g g1 : GM} {t t1 : TM} {m : EM} {vs vs1 : List Nat} (h : mi env S (kLc2 g t mi1 g1 t1 m vs vs1 env Q)) : mLc2 mi g t mi1 g1 t1 m vs vs1 env S Q := h
instance i_iZipL : St (iZipL ms env S R) (ms env S (kZL R)) := ⟨fun h => s_iZipL h⟩
instance i_dnewT : St (mDNewT env S Q) (∀ p, S p = none → Q (.ref p) (put S p (.dit []))) := ⟨fun h => s_dnewT h⟩
instance i_gIxT : St (gIxT mo mi' d env S NQ) (mo env S (kGT1 d mi' env NQ)) := ⟨fun h => s_gIxT h⟩
instance i_kGT1 : St (kGT1 d mi' env NQ e S) (mi' env S (kGT2 d e env NQ)) := ⟨fun h => s_kGT1 h⟩
instance i_fz : St (mFz me env S Q) (me env S (kFz Q)) := ⟨fun h => s_fz h⟩
instance i_iRod : St (iRod me env S R) (me env S (kRod R)) := ⟨fun h => s_iRod h⟩
instance i_kRod : St (kRod R (.rod ks xs) S) (R (ks.map fun k => .tup (k.map kD)) (fun _ => True) S) := ⟨fun h => s_kRod h⟩
instance i_revT : St (mRevT me env S Q) (me env S (kRevT Q)) := ⟨fun h => s_revT h⟩
instance i_kRevT {f : Bool} : St (kRevT Q (.tp f xs) S) (Q (.tup xs.reverse) S) := ⟨fun h => s_kRevT h⟩
instance i_lc2 {mi mi1 : IM} {g g1 : GM} {t t1 : TM} {m : EM} {vs vs1 : List Nat} : St (mLc2 mi g t mi1 g1 t1 m vs vs1 env S Q) (mi env S (kLc2 g t mi1 g1 t1 m vs vs1 env Q)) := ⟨fun h => s_lc2 h⟩
end
end DL

set_option Elab.async false
set_option linter.all false
set_option maxRecDepth 100000
set_option maxHeartbeats 4000000
/-! DL24: the hook, with what the names reach in n steps taken without leaving out what comes twice (much less memory). -/
namespace DL
open PySem PySem.Spec PyProof.Rows L2
def frD (g : Addr → Option Obj) : Nat → List Addr → List Addr
  | 0, l => l
  | n + 1, l => l ++ frD g n (l.flatMap fun a => match g a with
    | some o => He.refsD o
    | none => [])
def kFr (n : Nat) (g : Addr → Option Obj) : PySem.W.Frag := He.frG g (frD g n [mainGlobals] ++ [cStatics])
def hookF (n : Nat) (fa : List He.Fa) (fn : List He.DefD) (su : List SuD) (file : Str) (ex : List Str) : PySem.W.Hook where
  α := AlX
  obs := fun s => obsX fa fn su file ex (kFr n s.heap.get?)
  val := fun _ => valX fn su
  says := fun _ h => ∃ K : PySem.W.Frag, K.In h ∧ obsX fa fn su file ex K = valX fn su
  of := fun _ _ e => ⟨_, He.frG_in, e⟩
  keeps := fun _ _ _ ⟨K, hK, c⟩ k => ⟨K, hK.keeps k, c⟩
theorem hookF_eq {n : Nat} {fa : List He.Fa} {fn : List He.DefD} {su : List SuD} {file : Str} {ex : List Str} {g : Addr → Option Obj} {s : Shared} (h : ∀ a, g a = s.heap.get? a) : obsX fa fn su file ex (kFr n g) = (hookF n fa fn su file ex).obs s := by
  have e : g = s.heap.get? := funext h
  rw [e]
  rfl
end DL

set_option Elab.async false
set_option linter.all false
set_option maxRecDepth 100000
set_option maxHeartbeats 4000000
/-! printed by gen.py from the linked text of  -/
namespace K02
open PySem PySem.Spec PyProof.Rows L2 DL
abbrev PG_ : Program := PySem.Challenge.pw_toldonward_k02_whole_reasons_and_levers
def top (i : Nat) : Stmt := PG_.main.body.getD i (.Pass ⟨0, 0, 0, 0⟩)
abbrev st_RunU_initU : Stmt := inClass (top 8) 0
def df_RunU_initU : He.DefD := ⟨("Run", some "__init__"), "__init__", "Run.__init__", defArgs st_RunU_initU, defBody st_RunU_initU, defScope st_RunU_initU, [], []⟩
abbrev st_TrueRunU_initU : Stmt := inClass (top 10) 0
def df_TrueRunU_initU : He.DefD := ⟨("TrueRun", some "__init__"), "__init__", "TrueRun.__init__", defArgs st_TrueRunU_initU, defBody st_TrueRunU_initU, defScope st_TrueRunU_initU, [], []⟩
abbrev st_Run_did : Stmt := inClass (top 8) 6
def df_Run_did : He.DefD := ⟨("TrueRun", some "did"), "did", "Run.did", defArgs st_Run_did, defBody st_Run_did, defScope st_Run_did, [], []⟩
abbrev st_Run_slot_word : Stmt := inClass (top 8) 7
def df_Run_slot_word : He.DefD := ⟨("TrueRun", some "slot_word"), "slot_word", "Run.slot_word", defArgs st_Run_slot_word, defBody st_Run_slot_word, defScope st_Run_slot_word, [], []⟩
abbrev st_Run_held_word : Stmt := inClass (top 8) 8
def df_Run_held_word : He.DefD := ⟨("TrueRun", some "held_word"), "held_word", "Run.held_word", defArgs st_Run_held_word, defBody st_Run_held_word, defScope st_Run_held_word, [], []⟩
abbrev st_has_cell : Stmt := top 9
def df_has_cell : He.DefD := ⟨("has_cell", none), "has_cell", "has_cell", defArgs st_has_cell, defBody st_has_cell, defScope st_has_cell, [], []⟩
abbrev st_TrueRun_hear : Stmt := inClass (top 10) 1
def df_TrueRun_hear : He.DefD := ⟨("TrueRun", some "hear"), "hear", "TrueRun.hear", defArgs st_TrueRun_hear, defBody st_TrueRun_hear, defScope st_TrueRun_hear, [], []⟩
abbrev st_TrueRun_noted : Stmt := inClass (top 10) 2
def df_TrueRun_noted : He.DefD := ⟨("TrueRun", some "noted"), "noted", "TrueRun.noted", defArgs st_TrueRun_noted, defBody st_TrueRun_noted, defScope st_TrueRun_noted, [], []⟩
abbrev st_TrueRun_peeked : Stmt := inClass (top 10) 3
def df_TrueRun_peeked : He.DefD := ⟨("TrueRun", some "peeked"), "peeked", "TrueRun.peeked", defArgs st_TrueRun_peeked, defBody st_TrueRun_peeked, defScope st_TrueRun_peeked, [], []⟩
abbrev st_TrueRun_spoke : Stmt := inClass (top 10) 4
def df_TrueRun_spoke : He.DefD := ⟨("TrueRun", some "spoke"), "spoke", "TrueRun.spoke", defArgs st_TrueRun_spoke, defBody st_TrueRun_spoke, defScope st_TrueRun_spoke, [], []⟩
abbrev st_TrueRun_wrote : Stmt := inClass (top 10) 5
def df_TrueRun_wrote : He.DefD := ⟨("TrueRun", some "wrote"), "wrote", "TrueRun.wrote", defArgs st_TrueRun_wrote, defBody st_TrueRun_wrote, defScope st_TrueRun_wrote, [], []⟩
abbrev st_Run_do_row : Stmt := inClass (top 8) 10
def df_Run_do_row : He.DefD := ⟨("TrueRun", some "do_row"), "do_row", "Run.do_row", defArgs st_Run_do_row, defBody st_Run_do_row, defScope st_Run_do_row, [], []⟩
abbrev st_Run_do_rows : Stmt := inClass (top 8) 9
def df_Run_do_rows : He.DefD := ⟨("TrueRun", some "do_rows"), "do_rows", "Run.do_rows", defArgs st_Run_do_rows, defBody st_Run_do_rows, defScope st_Run_do_rows, [], []⟩
abbrev st_are_start_words : Stmt := top 12
def df_are_start_words : He.DefD := ⟨("are_start_words", none), "are_start_words", "are_start_words", defArgs st_are_start_words, defBody st_are_start_words, defScope st_are_start_words, [], []⟩
abbrev st_true_table : Stmt := top 13
def df_true_table : He.DefD := ⟨("true_table", none), "true_table", "true_table", defArgs st_true_table, defBody st_true_table, defScope st_true_table, [], []⟩
abbrev st_is_name : Stmt := top 28
def df_is_name : He.DefD := ⟨("is_name", none), "is_name", "is_name", defArgs st_is_name, defBody st_is_name, defScope st_is_name, [], []⟩
abbrev st_are_names : Stmt := top 29
def df_are_names : He.DefD := ⟨("are_names", none), "are_names", "are_names", defArgs st_are_names, defBody st_are_names, defScope st_are_names, [], []⟩
abbrev st_are_pairs : Stmt := top 30
def df_are_pairs : He.DefD := ⟨("are_pairs", none), "are_pairs", "are_pairs", defArgs st_are_pairs, defBody st_are_pairs, defScope st_are_pairs, [], []⟩
abbrev st_count_rows : Stmt := top 31
def df_count_rows : He.DefD := ⟨("count_rows", none), "count_rows", "count_rows", defArgs st_count_rows, defBody st_count_rows, defScope st_count_rows, [], []⟩
abbrev st_BodyCheckU_initU : Stmt := inClass (top 32) 0
def df_BodyCheckU_initU : He.DefD := ⟨("BodyCheck", some "__init__"), "__init__", "BodyCheck.__init__", defArgs st_BodyCheckU_initU, defBody st_BodyCheckU_initU, defScope st_BodyCheckU_initU, [], []⟩
abbrev st_BodyCheck_is_word : Stmt := inClass (top 32) 1
def df_BodyCheck_is_word : He.DefD := ⟨("BodyCheck", some "is_word"), "is_word", "BodyCheck.is_word", defArgs st_BodyCheck_is_word, defBody st_BodyCheck_is_word, defScope st_BodyCheck_is_word, [], []⟩
abbrev st_BodyCheck_is_choice : Stmt := inClass (top 32) 3
def df_BodyCheck_is_choice : He.DefD := ⟨("BodyCheck", some "is_choice"), "is_choice", "BodyCheck.is_choice", defArgs st_BodyCheck_is_choice, defBody st_BodyCheck_is_choice, defScope st_BodyCheck_is_choice, [], []⟩
abbrev st_BodyCheck_is_row : Stmt := inClass (top 32) 2
def df_BodyCheck_is_row : He.DefD := ⟨("BodyCheck", some "is_row"), "is_row", "BodyCheck.is_row", defArgs st_BodyCheck_is_row, defBody st_BodyCheck_is_row, defScope st_BodyCheck_is_row, [], []⟩
abbrev st_BodyCheck_first_wrong : Stmt := inClass (top 32) 4
def df_BodyCheck_first_wrong : He.DefD := ⟨("BodyCheck", some "first_wrong"), "first_wrong", "BodyCheck.first_wrong", defArgs st_BodyCheck_first_wrong, defBody st_BodyCheck_first_wrong, defScope st_BodyCheck_first_wrong, [], []⟩
abbrev st_BodyCheck_check : Stmt := inClass (top 32) 5
def df_BodyCheck_check : He.DefD := ⟨("BodyCheck", some "check"), "check", "BodyCheck.check", defArgs st_BodyCheck_check, defBody st_BodyCheck_check, defScope st_BodyCheck_check, [], []⟩
abbrev st_ProgramU_initU : Stmt := inClass (top 33) 0
def df_ProgramU_initU : He.DefD := ⟨("Program", some "__init__"), "__init__", "Program.__init__", defArgs st_ProgramU_initU, defBody st_ProgramU_initU, defScope st_ProgramU_initU, [], []⟩
abbrev st_Program_body : Stmt := inClass (top 33) 5
def df_Program_body : He.DefD := ⟨("Program", some "body"), "body", "Program.body", defArgs st_Program_body, defBody st_Program_body, defScope st_Program_body, [], []⟩
abbrev st_Program_body_path : Stmt := inClass (top 33) 6
def df_Program_body_path : He.DefD := ⟨("Program", some "body_path"), "body_path", "Program.body_path", defArgs st_Program_body_path, defBody st_Program_body_path, defScope st_Program_body_path, [], []⟩
abbrev st_true_run : Stmt := top 14
def df_true_run : He.DefD := ⟨("true_run", none), "true_run", "true_run", defArgs st_true_run, defBody st_true_run, defScope st_true_run, [], []⟩
abbrev st_telling : Stmt := top 16
def df_telling : He.DefD := ⟨("telling", none), "telling", "telling", defArgs st_telling, defBody st_telling, defScope st_telling, [], []⟩
abbrev st_word_rows : Stmt := top 17
def df_word_rows : He.DefD := ⟨("word_rows", none), "word_rows", "word_rows", defArgs st_word_rows, defBody st_word_rows, defScope st_word_rows, [], []⟩
abbrev st_places_of : Stmt := top 18
def df_places_of : He.DefD := ⟨("places_of", none), "places_of", "places_of", defArgs st_places_of, defBody st_places_of, defScope st_places_of, [], []⟩
abbrev st_agree : Stmt := top 19
def df_agree : He.DefD := ⟨("agree", none), "agree", "agree", defArgs st_agree, defBody st_agree, defScope st_agree, [], []⟩
abbrev st_TellingsU_initU : Stmt := inClass (top 20) 0
def df_TellingsU_initU : He.DefD := ⟨("Tellings", some "__init__"), "__init__", "Tellings.__init__", defArgs st_TellingsU_initU, defBody st_TellingsU_initU, defScope st_TellingsU_initU, [], []⟩
abbrev st_Tellings_told_where : Stmt := inClass (top 20) 1
def df_Tellings_told_where : He.DefD := ⟨("Tellings", some "told_where"), "told_where", "Tellings.told_where", defArgs st_Tellings_told_where, defBody st_Tellings_told_where, defScope st_Tellings_told_where, [], []⟩
abbrev st_Tellings_is_fixed : Stmt := inClass (top 20) 2
def df_Tellings_is_fixed : He.DefD := ⟨("Tellings", some "is_fixed"), "is_fixed", "Tellings.is_fixed", defArgs st_Tellings_is_fixed, defBody st_Tellings_is_fixed, defScope st_Tellings_is_fixed, [], []⟩
abbrev st_Tellings_others : Stmt := inClass (top 20) 3
def df_Tellings_others : He.DefD := ⟨("Tellings", some "others"), "others", "Tellings.others", defArgs st_Tellings_others, defBody st_Tellings_others, defScope st_Tellings_others, [], []⟩
abbrev st_Tellings_moves : Stmt := inClass (top 20) 4
def df_Tellings_moves : He.DefD := ⟨("Tellings", some "moves"), "moves", "Tellings.moves", defArgs st_Tellings_moves, defBody st_Tellings_moves, defScope st_Tellings_moves, [], []⟩
abbrev st_is_reason : Stmt := top 21
def df_is_reason : He.DefD := ⟨("is_reason", none), "is_reason", "is_reason", defArgs st_is_reason, defBody st_is_reason, defScope st_is_reason, [], []⟩
abbrev st_is_lever : Stmt := top 22
def df_is_lever : He.DefD := ⟨("is_lever", none), "is_lever", "is_lever", defArgs st_is_lever, defBody st_is_lever, defScope st_is_lever, [], []⟩
abbrev st_checked_places : Stmt := top 23
def df_checked_places : He.DefD := ⟨("checked_places", none), "checked_places", "checked_places", defArgs st_checked_places, defBody st_checked_places, defScope st_checked_places, [], []⟩
abbrev st_lever_words : Stmt := top 24
def df_lever_words : He.DefD := ⟨("lever_words", none), "lever_words", "lever_words", defArgs st_lever_words, defBody st_lever_words, defScope st_lever_words, [], []⟩
abbrev st__law_draw : Stmt := top 35
def df__law_draw : He.DefD := ⟨("_law_draw", none), "_law_draw", "_law_draw", defArgs st__law_draw, defBody st__law_draw, defScope st__law_draw, [], []⟩
abbrev st__law_keeps : Stmt := top 36
def df__law_keeps : He.DefD := ⟨("_law_keeps", none), "_law_keeps", "_law_keeps", defArgs st__law_keeps, defBody st__law_keeps, defScope st__law_keeps, [], []⟩
abbrev st__law_rest_of : Stmt := top 37
def df__law_rest_of : He.DefD := ⟨("_law_rest_of", none), "_law_rest_of", "_law_rest_of", defArgs st__law_rest_of, defBody st__law_rest_of, defScope st__law_rest_of, [], []⟩
abbrev st__law_state : Stmt := top 38
def df__law_state : He.DefD := ⟨("_law_state", none), "_law_state", "_law_state", defArgs st__law_state, defBody st__law_state, defScope st__law_state, [], []⟩
abbrev st__law_names : Stmt := top 39
def df__law_names : He.DefD := ⟨("_law_names", none), "_law_names", "_law_names", defArgs st__law_names, defBody st__law_names, defScope st__law_names, [], []⟩
abbrev st__law_many : Stmt := top 40
def df__law_many : He.DefD := ⟨("_law_many", none), "_law_many", "_law_many", defArgs st__law_many, defBody st__law_many, defScope st__law_many, [], []⟩
abbrev st__law_row : Stmt := top 41
def df__law_row : He.DefD := ⟨("_law_row", none), "_law_row", "_law_row", defArgs st__law_row, defBody st__law_row, defScope st__law_row, [], []⟩
abbrev st__law_rows : Stmt := top 42
def df__law_rows : He.DefD := ⟨("_law_rows", none), "_law_rows", "_law_rows", defArgs st__law_rows, defBody st__law_rows, defScope st__law_rows, [], []⟩
abbrev st__law_parts : Stmt := top 43
def df__law_parts : He.DefD := ⟨("_law_parts", none), "_law_parts", "_law_parts", defArgs st__law_parts, defBody st__law_parts, defScope st__law_parts, [], []⟩
abbrev st__law_sizes : Stmt := top 44
def df__law_sizes : He.DefD := ⟨("_law_sizes", none), "_law_sizes", "_law_sizes", defArgs st__law_sizes, defBody st__law_sizes, defScope st__law_sizes, [], []⟩
abbrev st__law_bodied : Stmt := top 45
def df__law_bodied : He.DefD := ⟨("_law_bodied", none), "_law_bodied", "_law_bodied", defArgs st__law_bodied, defBody st__law_bodied, defScope st__law_bodied, [], []⟩
abbrev st__law_body : Stmt := top 46
def df__law_body : He.DefD := ⟨("_law_body", none), "_law_body", "_law_body", defArgs st__law_body, defBody st__law_body, defScope st__law_body, [], []⟩
abbrev st__law_words : Stmt := top 47
def df__law_words : He.DefD := ⟨("_law_words", none), "_law_words", "_law_words", defArgs st__law_words, defBody st__law_words, defScope st__law_words, [], []⟩
abbrev st__law_program : Stmt := top 48
def df__law_program : He.DefD := ⟨("_law_program", none), "_law_program", "_law_program", defArgs st__law_program, defBody st__law_program, defScope st__law_program, [], []⟩
abbrev st__law_rows_of_words : Stmt := top 49
def df__law_rows_of_words : He.DefD := ⟨("_law_rows_of_words", none), "_law_rows_of_words", "_law_rows_of_words", defArgs st__law_rows_of_words, defBody st__law_rows_of_words, defScope st__law_rows_of_words, [], []⟩
abbrev st__law_true_rows : Stmt := top 50
def df__law_true_rows : He.DefD := ⟨("_law_true_rows", none), "_law_true_rows", "_law_true_rows", defArgs st__law_true_rows, defBody st__law_true_rows, defScope st__law_true_rows, [], []⟩
abbrev st__law_true : Stmt := top 51
def df__law_true : He.DefD := ⟨("_law_true", none), "_law_true", "_law_true", defArgs st__law_true, defBody st__law_true, defScope st__law_true, [], []⟩
abbrev st__law_own_telling : Stmt := top 52
def df__law_own_telling : He.DefD := ⟨("_law_own_telling", none), "_law_own_telling", "_law_own_telling", defArgs st__law_own_telling, defBody st__law_own_telling, defScope st__law_own_telling, [], []⟩
abbrev st__law_table_of : Stmt := top 53
def df__law_table_of : He.DefD := ⟨("_law_table_of", none), "_law_table_of", "_law_table_of", defArgs st__law_table_of, defBody st__law_table_of, defScope st__law_table_of, [], []⟩
abbrev st__law_sets : Stmt := top 54
def df__law_sets : He.DefD := ⟨("_law_sets", none), "_law_sets", "_law_sets", defArgs st__law_sets, defBody st__law_sets, defScope st__law_sets, [], []⟩
abbrev st__law_named : Stmt := top 55
def df__law_named : He.DefD := ⟨("_law_named", none), "_law_named", "_law_named", defArgs st__law_named, defBody st__law_named, defScope st__law_named, [], []⟩
abbrev st__law_fixed : Stmt := top 56
def df__law_fixed : He.DefD := ⟨("_law_fixed", none), "_law_fixed", "_law_fixed", defArgs st__law_fixed, defBody st__law_fixed, defScope st__law_fixed, [], []⟩
abbrev st__law_no_set : Stmt := top 57
def df__law_no_set : He.DefD := ⟨("_law_no_set", none), "_law_no_set", "_law_no_set", defArgs st__law_no_set, defBody st__law_no_set, defScope st__law_no_set, [], []⟩
abbrev st__law_first_lever : Stmt := top 58
def df__law_first_lever : He.DefD := ⟨("_law_first_lever", none), "_law_first_lever", "_law_first_lever", defArgs st__law_first_lever, defBody st__law_first_lever, defScope st__law_first_lever, [], []⟩
abbrev st__law_flag : Stmt := top 59
def df__law_flag : He.DefD := ⟨("_law_flag", none), "_law_flag", "_law_flag", defArgs st__law_flag, defBody st__law_flag, defScope st__law_flag, [], []⟩
abbrev st__law_refused : Stmt := top 60
def df__law_refused : He.DefD := ⟨("_law_refused", none), "_law_refused", "_law_refused", defArgs st__law_refused, defBody st__law_refused, defScope st__law_refused, [], []⟩
abbrev st_law : Stmt := top 61
def df_law : He.DefD := ⟨("law", none), "law", "law", defArgs st_law, defBody st_law, defScope st_law, [], []⟩
def sd_TrueRunU_initU : SuD := ⟨"TrueRun", "Run", "TrueRun.__init__", defArgs st_TrueRunU_initU, defBody st_TrueRunU_initU, defScope st_TrueRunU_initU⟩
def sups : List SuD := [sd_TrueRunU_initU]
def exns : List Str := ["InvalidStart", "UnknownCell", "InvalidSources"]
abbrev st_InvalidStartU_initU : Stmt := inClass (top 4) 0
def df_InvalidStartU_initU : He.DefD := ⟨("InvalidStart", some "__init__"), "__init__", "InvalidStart.__init__", defArgs st_InvalidStartU_initU, defBody st_InvalidStartU_initU, defScope st_InvalidStartU_initU, [], []⟩
abbrev st_UnknownCellU_initU : Stmt := inClass (top 5) 0
def df_UnknownCellU_initU : He.DefD := ⟨("UnknownCell", some "__init__"), "__init__", "UnknownCell.__init__", defArgs st_UnknownCellU_initU, defBody st_UnknownCellU_initU, defScope st_UnknownCellU_initU, [], []⟩
abbrev st_InvalidSourcesU_initU : Stmt := inClass (top 6) 0
def df_InvalidSourcesU_initU : He.DefD := ⟨("InvalidSources", some "__init__"), "__init__", "InvalidSources.__init__", defArgs st_InvalidSourcesU_initU, defBody st_InvalidSourcesU_initU, defScope st_InvalidSourcesU_initU, [], []⟩
def fns : List He.DefD := [df_RunU_initU, df_Run_did, df_Run_slot_word, df_Run_held_word, df_has_cell, df_TrueRun_hear, df_TrueRun_noted, df_TrueRun_peeked, df_TrueRun_spoke, df_TrueRun_wrote, df_Run_do_row, df_Run_do_rows, df_are_start_words, df_true_table, df_is_name, df_are_names, df_are_pairs, df_count_rows, df_BodyCheckU_initU, df_BodyCheck_is_word, df_BodyCheck_is_choice, df_BodyCheck_is_row, df_BodyCheck_first_wrong, df_BodyCheck_check, df_ProgramU_initU, df_Program_body, df_Program_body_path, df_true_run, df_telling, df_word_rows, df_places_of, df_agree, df_TellingsU_initU, df_Tellings_told_where, df_Tellings_is_fixed, df_Tellings_others, df_Tellings_moves, df_is_reason, df_is_lever, df_checked_places, df_lever_words, df__law_draw, df__law_keeps, df__law_rest_of, df__law_state, df__law_names, df__law_many, df__law_row, df__law_rows, df__law_parts, df__law_sizes, df__law_bodied, df__law_body, df__law_words, df__law_program, df__law_rows_of_words, df__law_true_rows, df__law_true, df__law_own_telling, df__law_table_of, df__law_sets, df__law_named, df__law_fixed, df__law_no_set, df__law_first_lever, df__law_flag, df__law_refused, df_law, df_InvalidStartU_initU, df_UnknownCellU_initU, df_InvalidSourcesU_initU]
def fac : List He.Fa := [.free "super", .glo "has_cell", .cls "TrueRun", .meth "TrueRun" "hear", .meth "TrueRun" "noted", .meth "TrueRun" "peeked", .meth "TrueRun" "slot_word", .meth "TrueRun" "spoke", .meth "TrueRun" "wrote", .free "enumerate", .meth "TrueRun" "did", .meth "TrueRun" "do_rows", .meth "TrueRun" "do_row", .free "len", .free "tuple", .free "isinstance", .free "str", .glo "are_start_words", .free "zip", .mkr "TrueRun", .glo "TrueRun", .meth "TrueRun" "held_word", .free "set", .glo "is_name", .free "dict", .glo "count_rows", .int "MOST_DEPTH" 4, .cls "BodyCheck", .meth "BodyCheck" "is_word", .meth "BodyCheck" "is_choice", .meth "BodyCheck" "is_row", .meth "BodyCheck" "first_wrong", .int "MOST_ROWS" 16, .glo "are_names", .glo "are_pairs", .free "list", .mkr "BodyCheck", .glo "BodyCheck", .meth "BodyCheck" "check", .glo "true_table", .cls "Program", .meth "Program" "body", .meth "Program" "body_path", .glo "true_run", .free "range", .free "all", .glo "telling", .glo "word_rows", .glo "agree", .cls "Tellings", .meth "Tellings" "told_where", .meth "Tellings" "others", .meth "Tellings" "is_fixed", .mkr "Tellings", .glo "Tellings", .glo "places_of", .meth "Tellings" "moves", .glo "checked_places", .free "abs", .free "int", .glo "_law_draw", .glo "_law_many", .glo "_law_rows", .glo "_law_row", .free "max", .glo "_law_names", .glo "_law_sizes", .glo "_law_parts", .mkr "Program", .glo "Program", .glo "_law_true_rows", .glo "_law_true", .glo "_law_rows_of_words", .glo "_law_own_telling", .glo "_law_keeps", .glo "_law_rest_of", .free "bool", .glo "lever_words", .glo "InvalidSources", .glo "_law_state", .glo "_law_bodied", .glo "_law_body", .glo "_law_words", .glo "_law_program", .glo "_law_table_of", .glo "_law_sets", .glo "_law_named", .glo "_law_fixed", .glo "is_reason", .glo "_law_flag", .glo "is_lever", .glo "_law_first_lever", .glo "_law_no_set", .glo "_law_refused", .glo "InvalidStart", .meth "InvalidStart" "__init__", .noat "InvalidStart" "words", .glo "UnknownCell", .meth "UnknownCell" "__init__", .noat "UnknownCell" "name", .meth "InvalidSources" "__init__", .noat "InvalidSources" "sources", .cls "BodyCheck", .noat "BodyCheck" "kind", .noat "BodyCheck" "words", .noat "BodyCheck" "sources", .noat "BodyCheck" "readable", .cls "Program", .noat "Program" "words", .noat "Program" "sources", .noat "Program" "derived", .noat "Program" "effects", .cls "TrueRun", .noat "TrueRun" "name", .noat "TrueRun" "default", .noat "TrueRun" "slots", .noat "TrueRun" "given", .noat "TrueRun" "over", .noat "TrueRun" "told_words", .noat "TrueRun" "notes", .noat "TrueRun" "peeks", .noat "TrueRun" "says", .noat "TrueRun" "written", .cls "Tellings", .noat "Tellings" "own", .noat "Tellings" "words", .noat "Tellings" "sources", .noat "Tellings" "table", .glo "law", .exm "InvalidSources" "InvalidSources" true]
end K02

set_option Elab.async false
set_option linter.all false
set_option maxRecDepth 100000
set_option maxHeartbeats 0
/-! H2: the head of k02. -/
namespace K02
open PySem PySem.Spec PyProof.Rows L2 DL
abbrev R : PySem.W.OpenRow := PySem.W.OpenLaw.row PySem.Challenge.rw_toldonward_k02_whole_reasons_and_levers
abbrev hk : PySem.W.Hook := hookF 4 fac fns sups PG_.main.file exns
def ob (s : PySem.W.SharedT) : AlX := obsX fac fns sups PG_.main.file exns (kFr 4 (HandSHeadRun.getT s))
theorem ob_eq (s : PySem.W.SharedT) : ob s = hk.obs s.abs := hookF_eq (HandSHeadRun.getT_eq s)
def loose : List Str := ("_wall" : Str) :: ("ToldError" : Str) :: ("InvalidProgram" : Str) :: ("InvalidStart" : Str) :: ("UnknownCell" : Str) :: ("InvalidSources" : Str) :: ("Run" : Str) :: ("has_cell" : Str) :: ("TrueRun" : Str) :: ("are_start_words" : Str) :: ("true_table" : Str) :: ("true_run" : Str) :: ("telling" : Str) :: ("word_rows" : Str) :: ("places_of" : Str) :: ("agree" : Str) :: ("Tellings" : Str) :: ("is_reason" : Str) :: ("is_lever" : Str) :: ("checked_places" : Str) :: ("lever_words" : Str) :: ("MOST_ROWS" : Str) :: ("MOST_DEPTH" : Str) :: ("is_name" : Str) :: ("are_names" : Str) :: ("are_pairs" : Str) :: ("count_rows" : Str) :: ("BodyCheck" : Str) :: ("Program" : Str) :: ("_law_draw" : Str) :: ("_law_keeps" : Str) :: ("_law_rest_of" : Str) :: ("_law_state" : Str) :: ("_law_names" : Str) :: ("_law_many" : Str) :: ("_law_row" : Str) :: ("_law_rows" : Str) :: ("_law_parts" : Str) :: ("_law_sizes" : Str) :: ("_law_bodied" : Str) :: ("_law_body" : Str) :: ("_law_words" : Str) :: ("_law_program" : Str) :: ("_law_rows_of_words" : Str) :: ("_law_true_rows" : Str) :: ("_law_true" : Str) :: ("_law_own_telling" : Str) :: ("_law_table_of" : Str) :: ("_law_sets" : Str) :: ("_law_named" : Str) :: ("_law_fixed" : Str) :: ("_law_no_set" : Str) :: ("_law_first_lever" : Str) :: ("_law_flag" : Str) :: ("_law_refused" : Str) :: []
theorem run (w : World) : HandSHeadRun.RunEq R (PySem.W.view R.prog [61]) hk ob 5000 loose w := by
  intro os
  kernel_rfl
end K02

set_option Elab.async false
set_option linter.all false
set_option maxRecDepth 100000
set_option maxHeartbeats 4000000
namespace K02
open PySem PySem.Spec PyProof.Rows L2 DL
section
variable {w : World} {K : PySem.W.Frag} {mg : Str → Option Value} {base : Heap}
theorem sc_InvalidStartU_initU : FnScope ["self", "words"] ["self", "words"] (defScope st_InvalidStartU_initU) := ⟨rfl, rfl, rfl, by decide +kernel, rfl, by decide +kernel, by decide +kernel⟩
theorem ex_InvalidStart (T : Tz fac fns sups PG_.main.file exns K mg) : ExOk PG_ w K mg base "InvalidStart" "words" := by
  obtain ⟨fd, F⟩ := T.df 68 (d := df_InvalidStartU_initU)
  have bi : Binds K fd ["self", "words"] [] := FunD.bindsN F fun _ _ _ _ _ _ us hl => match us, hl with | [_, _], _ => rfl
  refine T.exc 0 94 95 96 rfl rfl rfl rfl ⟨fd, _, fn_exc F sc_InvalidStartU_initU rfl (fun X h1 h2 => ⟨pe_var (by rw [h1]; rfl) (.inl (by rw [h2]; rfl)), pe_var (by rw [h1]; rfl) (.inl (by rw [h2]; rfl)), rfl⟩), bi⟩
theorem sc_UnknownCellU_initU : FnScope ["self", "name"] ["self", "name"] (defScope st_UnknownCellU_initU) := ⟨rfl, rfl, rfl, by decide +kernel, rfl, by decide +kernel, by decide +kernel⟩
theorem ex_UnknownCell (T : Tz fac fns sups PG_.main.file exns K mg) : ExOk PG_ w K mg base "UnknownCell" "name" := by
  obtain ⟨fd, F⟩ := T.df 69 (d := df_UnknownCellU_initU)
  have bi : Binds K fd ["self", "name"] [] := FunD.bindsN F fun _ _ _ _ _ _ us hl => match us, hl with | [_, _], _ => rfl
  refine T.exc 1 97 98 99 rfl rfl rfl rfl ⟨fd, _, fn_exc F sc_UnknownCellU_initU rfl (fun X h1 h2 => ⟨pe_var (by rw [h1]; rfl) (.inl (by rw [h2]; rfl)), pe_var (by rw [h1]; rfl) (.inl (by rw [h2]; rfl)), rfl⟩), bi⟩
theorem sc_InvalidSourcesU_initU : FnScope ["self", "sources"] ["self", "sources"] (defScope st_InvalidSourcesU_initU) := ⟨rfl, rfl, rfl, by decide +kernel, rfl, by decide +kernel, by decide +kernel⟩
theorem ex_InvalidSources (T : Tz fac fns sups PG_.main.file exns K mg) : ExOk PG_ w K mg base "InvalidSources" "sources" := by
  obtain ⟨fd, F⟩ := T.df 70 (d := df_InvalidSourcesU_initU)
  have bi : Binds K fd ["self", "sources"] [] := FunD.bindsN F fun _ _ _ _ _ _ us hl => match us, hl with | [_, _], _ => rfl
  refine T.exc 2 78 100 101 rfl rfl rfl rfl ⟨fd, _, fn_exc F sc_InvalidSourcesU_initU rfl (fun X h1 h2 => ⟨pe_var (by rw [h1]; rfl) (.inl (by rw [h2]; rfl)), pe_var (by rw [h1]; rfl) (.inl (by rw [h2]; rfl)), rfl⟩), bi⟩
/-! Run.__init__: 0 self, 1 name, 2 default -/
def b_RunU_initU (K : PySem.W.Frag) (W : XW) : SM :=
  (mSeq (mSetF K (mVar 0) (mVar 1) "name") (mSeq (mSetF K (mVar 0) (mVar 2) "default") (mSeq (mSetF K (mVar 0) mDNew "slots") (mSeq (mSetF K (mVar 0) (mC .non) "given") (mSetF K (mVar 0) (mC (.bl false)) "over")))))
theorem sc_RunU_initU : FnScope ["self", "name", "default"] ["self", "name", "default"] (defScope st_RunU_initU) := ⟨rfl, rfl, rfl, by decide +kernel, rfl, by decide +kernel, by decide +kernel⟩
def sp_RunU_initU (K : PySem.W.Frag) : SpD := spB 3 0 (b_RunU_initU K)
theorem ok_RunU_initU (T : Tz fac fns sups PG_.main.file exns K mg) : Fd PG_ w K mg base 2 (He.ma K (He.ga K "Run") "__init__") (sp_RunU_initU K) := by
  obtain ⟨fd, F⟩ := T.df 0 (d := df_RunU_initU)
  have bi : Binds K fd ["self", "name", "default"] [] := FunD.bindsN F fun _ _ _ _ _ _ us hl => match us, hl with | [_, _, _], _ => rfl
  refine ok_def (k := 1) F sc_RunU_initU bi rfl rfl fun cdv A outer s H E hr X eX W tk po => ?_
  subst eX
  unfold b_RunU_initU
  exact (mss_cons (ms_fld (me_var 0 (pv 0)) (me_var 1 (pv 1)))
    (mss_cons (ms_fld (me_var 0 (pv 0)) (me_var 2 (pv 2)))
    (mss_cons (ms_fld (me_var 0 (pv 0)) me_dnew)
    (mss_cons (ms_fld (me_var 0 (pv 0)) me_non)
    (mss_one (ms_fld (me_var 0 (pv 0)) me_bl))))))
/-! TrueRun.__init__: 0 self, 1 name, 2 default, 3 told -/
def b_TrueRunU_initU (K : PySem.W.Frag) (W : XW) : SM :=
  (mSeq (mDrop (mSup (He.ga K "TrueRun") (sp_RunU_initU K) W (mCons (mVar 1) (mCons (mVar 2) mNil)))) (mSeq (mSetF K (mVar 0) (mVar 3) "told_words") (mSeq (mSetF K (mVar 0) (mLst mNil) "notes") (mSeq (mSetF K (mVar 0) (mLst mNil) "peeks") (mSeq (mSetF K (mVar 0) (mLst mNil) "says") (mSetF K (mVar 0) (mLst mNil) "written"))))))
theorem sc_TrueRunU_initU : SupScope ["self", "name", "default", "told"] ["self", "name", "default", "told"] (defScope st_TrueRunU_initU) := ⟨rfl, rfl, rfl, by decide +kernel, rfl, by decide +kernel, by decide +kernel, by decide +kernel, by decide +kernel, by decide +kernel⟩
def sp_TrueRunU_initU (K : PySem.W.Frag) : SpD := spB 4 0 (b_TrueRunU_initU K)
theorem ok_TrueRunU_initU (T : Tz fac fns sups PG_.main.file exns K mg) : Fd PG_ w K mg base 4 (He.ma K (He.ga K "TrueRun") "__init__") (sp_TrueRunU_initU K) := by
  have U := T.su 0 (d := sd_TrueRunU_initU)
  obtain ⟨oc, od, kV, doc, pm, an, ct, osl, cda, cc, c1, c2, c3, x1, x2, x3, fvs, tf, cd, lk, hcd, kcode, hvs, kcell, kC⟩ := U.ex
  refine ok_sup (k := 3) (mr := fun W => (mSeq (mSetF K (mVar 0) (mVar 3) "told_words") (mSeq (mSetF K (mVar 0) (mLst mNil) "notes") (mSeq (mSetF K (mVar 0) (mLst mNil) "peeks") (mSeq (mSetF K (mVar 0) (mLst mNil) "says") (mSetF K (mVar 0) (mLst mNil) "written")))))) (ma := (mCons (mVar 1) (mCons (mVar 2) mNil))) (P := PG_) lk U.kp hcd sc_TrueRunU_initU (Binds.all fun us hl => match us, hl with | [_, _, _, _], _ => rfl) rfl rfl rfl rfl kcode hvs kcell kC U.sub U.st U.hm U.ht U.hf (T.free 0) (by decide +kernel) (by rfl) ((ok_RunU_initU T).more (by decide)) (fun L => ⟨rfl, rfl, rfl, rfl, rfl⟩) fun A outer s H E hr X eX W tk => ?_
  subst eX
  exact ⟨(ma_cons (me_var 1 (pv 1)) (ma_cons (me_var 2 (pv 2)) ma_nil)),
    (mss_cons (ms_fld (me_var 0 (pv 0)) (me_var 3 (pv 3)))
    (mss_cons (ms_fld (me_var 0 (pv 0)) (me_lst ma_nil))
    (mss_cons (ms_fld (me_var 0 (pv 0)) (me_lst ma_nil))
    (mss_cons (ms_fld (me_var 0 (pv 0)) (me_lst ma_nil))
    (mss_one (ms_fld (me_var 0 (pv 0)) (me_lst ma_nil)))))))⟩
/-! Run.did: 0 self, 1 path -/
def b_Run_did (K : PySem.W.Frag) (W : XW) : SM :=
  mNx
theorem sc_Run_did : FnScope ["self", "path"] ["self", "path"] (defScope st_Run_did) := ⟨rfl, rfl, rfl, by decide +kernel, rfl, by decide +kernel, by decide +kernel⟩
def sp_Run_did (K : PySem.W.Frag) : SpD := spB 2 0 (b_Run_did K)
theorem ok_Run_did (T : Tz fac fns sups PG_.main.file exns K mg) : Fd PG_ w K mg base 2 (He.ma K (He.ga K "TrueRun") "did") (sp_Run_did K) := by
  obtain ⟨fd, F⟩ := T.df 1 (d := df_Run_did)
  have bi : Binds K fd ["self", "path"] [] := FunD.bindsN F fun _ _ _ _ _ _ us hl => match us, hl with | [_, _], _ => rfl
  refine ok_def (k := 1) F sc_Run_did bi rfl rfl fun cdv A outer s H E hr X eX W tk po => ?_
  subst eX
  unfold b_Run_did
  exact (mss_one ms_pass)
/-! Run.slot_word: 0 self, 1 slot -/
def b_Run_slot_word (K : PySem.W.Frag) (W : XW) : SM :=
  (mRet (mGet2 (mFld K (mVar 0) "slots") (mVar 1) (mFld K (mVar 0) "default")))
theorem sc_Run_slot_word : FnScope ["self", "slot"] ["self", "slot"] (defScope st_Run_slot_word) := ⟨rfl, rfl, rfl, by decide +kernel, rfl, by decide +kernel, by decide +kernel⟩
def sp_Run_slot_word (K : PySem.W.Frag) : SpD := spB 2 0 (b_Run_slot_word K)
theorem ok_Run_slot_word (T : Tz fac fns sups PG_.main.file exns K mg) : Fd PG_ w K mg base 2 (He.ma K (He.ga K "TrueRun") "slot_word") (sp_Run_slot_word K) := by
  obtain ⟨fd, F⟩ := T.df 2 (d := df_Run_slot_word)
  have bi : Binds K fd ["self", "slot"] [] := FunD.bindsN F fun _ _ _ _ _ _ us hl => match us, hl with | [_, _], _ => rfl
  refine ok_def (k := 1) F sc_Run_slot_word bi rfl rfl fun cdv A outer s H E hr X eX W tk po => ?_
  subst eX
  unfold b_Run_slot_word
  exact (mss_one (ms_ret (me_get2 (hu1 hr) (me_fld (me_var 0 (pv 0))) (me_var 1 (pv 1)) (me_fld (me_var 0 (pv 0))))))
/-! Run.held_word: 0 self -/
def b_Run_held_word (K : PySem.W.Frag) (W : XW) : SM :=
  (mSeq (mIf (mB (mOp vIs (mFld K (mVar 0) "given") (mC .non)))
    (mRet (mFld K (mVar 0) "default"))
    mNx) (mRet (mFld K (mVar 0) "given")))
theorem sc_Run_held_word : FnScope ["self"] ["self"] (defScope st_Run_held_word) := ⟨rfl, rfl, rfl, by decide +kernel, rfl, by decide +kernel, by decide +kernel⟩
def sp_Run_held_word (K : PySem.W.Frag) : SpD := spB 1 0 (b_Run_held_word K)
theorem ok_Run_held_word (T : Tz fac fns sups PG_.main.file exns K mg) : Fd PG_ w K mg base 2 (He.ma K (He.ga K "TrueRun") "held_word") (sp_Run_held_word K) := by
  obtain ⟨fd, F⟩ := T.df 3 (d := df_Run_held_word)
  have bi : Binds K fd ["self"] [] := FunD.bindsN F fun _ _ _ _ _ _ us hl => match us, hl with | [_], _ => rfl
  refine ok_def (k := 1) F sc_Run_held_word bi rfl rfl fun cdv A outer s H E hr X eX W tk po => ?_
  subst eX
  unfold b_Run_held_word
  exact (mss_cons (ms_if (mt_cmp od_is (me_fld (me_var 0 (pv 0))) me_non)
    (mss_one (ms_ret (me_fld (me_var 0 (pv 0)))))
    mss_nil)
    (mss_one (ms_ret (me_fld (me_var 0 (pv 0))))))
/-! has_cell: 0 pairs, 1 cell, 2 pair -/
def b_has_cell (K : PySem.W.Frag) (W : XW) : SM :=
  (mSeq (mFor (iSeq (mVar 0)) (gNm 2)
    (mIf (mB (mOp vEq (mOp vIx (mVar 2) (mC (.int 0))) (mVar 1)))
    (mRet (mC (.bl true)))
    mNx)) (mRet (mC (.bl false))))
theorem sc_has_cell : FnScope ["pairs", "cell", "pair"] ["pairs", "cell"] (defScope st_has_cell) := ⟨rfl, rfl, rfl, by decide +kernel, rfl, by decide +kernel, by decide +kernel⟩
def sp_has_cell (K : PySem.W.Frag) : SpD := spB 2 1 (b_has_cell K)
theorem ok_has_cell (T : Tz fac fns sups PG_.main.file exns K mg) : Fd PG_ w K mg base 2 (He.ga K "has_cell") (sp_has_cell K) := by
  obtain ⟨fd, F⟩ := T.df 4 (d := df_has_cell)
  have bi : Binds K fd ["pairs", "cell"] [] := FunD.bindsN F fun _ _ _ _ _ _ us hl => match us, hl with | [_, _], _ => rfl
  refine ok_def (k := 1) F sc_has_cell bi rfl rfl fun cdv A outer s H E hr X eX W tk po => ?_
  subst eX
  unfold b_has_cell
  exact (mss_cons (ms_for po rfl (mi_seq (me_var 0 (pv 0))) (mg_name (pg_name sc_has_cell.nd rfl (by first | exact .inl rfl | exact .inr rfl)))
    (mss_one (ms_if (mt_cmp (od_eq (hu64 hr)) (me_ix (hu1 hr) (me_var 2 (pv 2)) me_int) (me_var 1 (pv 1)))
    (mss_one (ms_ret me_bl))
    mss_nil)) (fun h1 h2 h3 => ps_for po rfl h1 h2 h3))
    (mss_one (ms_ret me_bl)))
/-! TrueRun.hear: 0 self, 1 cell -/
def b_TrueRun_hear (K : PySem.W.Frag) (W : XW) : SM :=
  (mRet (mOp vIx (mFld K (mVar 0) "told_words") (mVar 1)))
theorem sc_TrueRun_hear : FnScope ["self", "cell"] ["self", "cell"] (defScope st_TrueRun_hear) := ⟨rfl, rfl, rfl, by decide +kernel, rfl, by decide +kernel, by decide +kernel⟩
def sp_TrueRun_hear (K : PySem.W.Frag) : SpD := spB 2 0 (b_TrueRun_hear K)
theorem ok_TrueRun_hear (T : Tz fac fns sups PG_.main.file exns K mg) : Fd PG_ w K mg base 2 (He.ma K (He.ga K "TrueRun") "hear") (sp_TrueRun_hear K) := by
  obtain ⟨fd, F⟩ := T.df 5 (d := df_TrueRun_hear)
  have bi : Binds K fd ["self", "cell"] [] := FunD.bindsN F fun _ _ _ _ _ _ us hl => match us, hl with | [_, _], _ => rfl
  refine ok_def (k := 1) F sc_TrueRun_hear bi rfl rfl fun cdv A outer s H E hr X eX W tk po => ?_
  subst eX
  unfold b_TrueRun_hear
  exact (mss_one (ms_ret (me_ix (hu1 hr) (me_fld (me_var 0 (pv 0))) (me_var 1 (pv 1)))))
/-! TrueRun.noted: 0 self, 1 cell, 2 word -/
def b_TrueRun_noted (K : PySem.W.Frag) (W : XW) : SM :=
  (mIf (mNot (mTru (mCall (sp_has_cell K) W (mCons (mFld K (mVar 0) "notes") (mCons (mVar 1) mNil)))))
    (mDrop (mMet okL rApp (mFld K (mVar 0) "notes") (mCons (mTup (mCons (mVar 1) (mCons (mVar 2) mNil))) mNil)))
    mNx)
theorem sc_TrueRun_noted : FnScope ["self", "cell", "word"] ["self", "cell", "word"] (defScope st_TrueRun_noted) := ⟨rfl, rfl, rfl, by decide +kernel, rfl, by decide +kernel, by decide +kernel⟩
def sp_TrueRun_noted (K : PySem.W.Frag) : SpD := spB 3 0 (b_TrueRun_noted K)
theorem ok_TrueRun_noted (T : Tz fac fns sups PG_.main.file exns K mg) : Fd PG_ w K mg base 4 (He.ma K (He.ga K "TrueRun") "noted") (sp_TrueRun_noted K) := by
  obtain ⟨fd, F⟩ := T.df 6 (d := df_TrueRun_noted)
  have bi : Binds K fd ["self", "cell", "word"] [] := FunD.bindsN F fun _ _ _ _ _ _ us hl => match us, hl with | [_, _, _], _ => rfl
  refine ok_def (k := 3) F sc_TrueRun_noted bi rfl rfl fun cdv A outer s H E hr X eX W tk po => ?_
  subst eX
  unfold b_TrueRun_noted
  exact (mss_one (ms_if (mt_not (mt_tru (me_fn (ok_has_cell T) (hr.mono (by omega)) tk (T.glo 1) (ma_cons (me_fld (me_var 0 (pv 0))) (ma_cons (me_var 1 (pv 1)) ma_nil)))))
    (mss_one (ms_expr (me_append (me_fld (me_var 0 (pv 0))) (ma_cons (me_tup (ma_cons (me_var 1 (pv 1)) (ma_cons (me_var 2 (pv 2)) ma_nil))) ma_nil))))
    mss_nil))
/-! TrueRun.peeked: 0 self, 1 cell, 2 word -/
def b_TrueRun_peeked (K : PySem.W.Frag) (W : XW) : SM :=
  (mIf (mNot (mTru (mCall (sp_has_cell K) W (mCons (mFld K (mVar 0) "peeks") (mCons (mVar 1) mNil)))))
    (mDrop (mMet okL rApp (mFld K (mVar 0) "peeks") (mCons (mTup (mCons (mVar 1) (mCons (mVar 2) mNil))) mNil)))
    mNx)
theorem sc_TrueRun_peeked : FnScope ["self", "cell", "word"] ["self", "cell", "word"] (defScope st_TrueRun_peeked) := ⟨rfl, rfl, rfl, by decide +kernel, rfl, by decide +kernel, by decide +kernel⟩
def sp_TrueRun_peeked (K : PySem.W.Frag) : SpD := spB 3 0 (b_TrueRun_peeked K)
theorem ok_TrueRun_peeked (T : Tz fac fns sups PG_.main.file exns K mg) : Fd PG_ w K mg base 4 (He.ma K (He.ga K "TrueRun") "peeked") (sp_TrueRun_peeked K) := by
  obtain ⟨fd, F⟩ := T.df 7 (d := df_TrueRun_peeked)
  have bi : Binds K fd ["self", "cell", "word"] [] := FunD.bindsN F fun _ _ _ _ _ _ us hl => match us, hl with | [_, _, _], _ => rfl
  refine ok_def (k := 3) F sc_TrueRun_peeked bi rfl rfl fun cdv A outer s H E hr X eX W tk po => ?_
  subst eX
  unfold b_TrueRun_peeked
  exact (mss_one (ms_if (mt_not (mt_tru (me_fn (ok_has_cell T) (hr.mono (by omega)) tk (T.glo 1) (ma_cons (me_fld (me_var 0 (pv 0))) (ma_cons (me_var 1 (pv 1)) ma_nil)))))
    (mss_one (ms_expr (me_append (me_fld (me_var 0 (pv 0))) (ma_cons (me_tup (ma_cons (me_var 1 (pv 1)) (ma_cons (me_var 2 (pv 2)) ma_nil))) ma_nil))))
    mss_nil))
/-! TrueRun.spoke: 0 self, 1 word -/
def b_TrueRun_spoke (K : PySem.W.Frag) (W : XW) : SM :=
  (mDrop (mMet okL rApp (mFld K (mVar 0) "says") (mCons (mVar 1) mNil)))
theorem sc_TrueRun_spoke : FnScope ["self", "word"] ["self", "word"] (defScope st_TrueRun_spoke) := ⟨rfl, rfl, rfl, by decide +kernel, rfl, by decide +kernel, by decide +kernel⟩
def sp_TrueRun_spoke (K : PySem.W.Frag) : SpD := spB 2 0 (b_TrueRun_spoke K)
theorem ok_TrueRun_spoke (T : Tz fac fns sups PG_.main.file exns K mg) : Fd PG_ w K mg base 2 (He.ma K (He.ga K "TrueRun") "spoke") (sp_TrueRun_spoke K) := by
  obtain ⟨fd, F⟩ := T.df 8 (d := df_TrueRun_spoke)
  have bi : Binds K fd ["self", "word"] [] := FunD.bindsN F fun _ _ _ _ _ _ us hl => match us, hl with | [_, _], _ => rfl
  refine ok_def (k := 1) F sc_TrueRun_spoke bi rfl rfl fun cdv A outer s H E hr X eX W tk po => ?_
  subst eX
  unfold b_TrueRun_spoke
  exact (mss_one (ms_expr (me_append (me_fld (me_var 0 (pv 0))) (ma_cons (me_var 1 (pv 1)) ma_nil))))
/-! TrueRun.wrote: 0 self, 1 source, 2 word -/
def b_TrueRun_wrote (K : PySem.W.Frag) (W : XW) : SM :=
  (mDrop (mMet okL rApp (mFld K (mVar 0) "written") (mCons (mTup (mCons (mVar 1) (mCons (mVar 2) mNil))) mNil)))
theorem sc_TrueRun_wrote : FnScope ["self", "source", "word"] ["self", "source", "word"] (defScope st_TrueRun_wrote) := ⟨rfl, rfl, rfl, by decide +kernel, rfl, by decide +kernel, by decide +kernel⟩
def sp_TrueRun_wrote (K : PySem.W.Frag) : SpD := spB 3 0 (b_TrueRun_wrote K)
theorem ok_TrueRun_wrote (T : Tz fac fns sups PG_.main.file exns K mg) : Fd PG_ w K mg base 2 (He.ma K (He.ga K "TrueRun") "wrote") (sp_TrueRun_wrote K) := by
  obtain ⟨fd, F⟩ := T.df 9 (d := df_TrueRun_wrote)
  have bi : Binds K fd ["self", "source", "word"] [] := FunD.bindsN F fun _ _ _ _ _ _ us hl => match us, hl with | [_, _, _], _ => rfl
  refine ok_def (k := 1) F sc_TrueRun_wrote bi rfl rfl fun cdv A outer s H E hr X eX W tk po => ?_
  subst eX
  unfold b_TrueRun_wrote
  exact (mss_one (ms_expr (me_append (me_fld (me_var 0 (pv 0))) (ma_cons (me_tup (ma_cons (me_var 1 (pv 1)) (ma_cons (me_var 2 (pv 2)) ma_nil))) ma_nil))))
/-! Run.do_row: 0 self, 1 row, 2 word -/
def b_Run_do_row (K : PySem.W.Frag) (W : XW) : SM :=
  (mIf (mB (mOp vEq (mOp vIx (mVar 1) (mC (.int 0))) (mC (.str "read"))))
    (mSeq (mAsg (mMeth (He.ga K "TrueRun") "hear" (sp_TrueRun_hear K) W (mVar 0) (mCons (mOp vIx (mVar 1) (mC (.int 1))) mNil)) (gNm 2)) (mSeq (mDrop (mMeth (He.ga K "TrueRun") "noted" (sp_TrueRun_noted K) W (mVar 0) (mCons (mOp vIx (mVar 1) (mC (.int 1))) (mCons (mVar 2) mNil)))) (mAsg (mVar 2) (gIx (mFld K (mVar 0) "slots") (mOp vIx (mVar 1) (mC (.int 2)))))))
    (mIf (mB (mOp vEq (mOp vIx (mVar 1) (mC (.int 0))) (mC (.str "peek"))))
    (mSeq (mAsg (mMeth (He.ga K "TrueRun") "hear" (sp_TrueRun_hear K) W (mVar 0) (mCons (mOp vIx (mVar 1) (mC (.int 1))) mNil)) (gNm 2)) (mSeq (mDrop (mMeth (He.ga K "TrueRun") "peeked" (sp_TrueRun_peeked K) W (mVar 0) (mCons (mOp vIx (mVar 1) (mC (.int 1))) (mCons (mVar 2) mNil)))) (mAsg (mVar 2) (gIx (mFld K (mVar 0) "slots") (mOp vIx (mVar 1) (mC (.int 2)))))))
    (mIf (mB (mOp vEq (mOp vIx (mVar 1) (mC (.int 0))) (mC (.str "put"))))
    (mAsg (mOp vIx (mVar 1) (mC (.int 2))) (gIx (mFld K (mVar 0) "slots") (mOp vIx (mVar 1) (mC (.int 1)))))
    (mIf (mB (mOp vEq (mOp vIx (mVar 1) (mC (.int 0))) (mC (.str "give"))))
    (mSeq (mSetF K (mVar 0) (mMeth (He.ga K "TrueRun") "slot_word" (sp_Run_slot_word K) W (mVar 0) (mCons (mOp vIx (mVar 1) (mC (.int 1))) mNil)) "given") (mSetF K (mVar 0) (mC (.bl true)) "over"))
    (mIf (mB (mOp vEq (mOp vIx (mVar 1) (mC (.int 0))) (mC (.str "say"))))
    (mDrop (mMeth (He.ga K "TrueRun") "spoke" (sp_TrueRun_spoke K) W (mVar 0) (mCons (mMeth (He.ga K "TrueRun") "slot_word" (sp_Run_slot_word K) W (mVar 0) (mCons (mOp vIx (mVar 1) (mC (.int 1))) mNil)) mNil)))
    (mDrop (mMeth (He.ga K "TrueRun") "wrote" (sp_TrueRun_wrote K) W (mVar 0) (mCons (mOp vIx (mVar 1) (mC (.int 1))) (mCons (mMeth (He.ga K "TrueRun") "slot_word" (sp_Run_slot_word K) W (mVar 0) (mCons (mOp vIx (mVar 1) (mC (.int 2))) mNil)) mNil)))))))))
theorem sc_Run_do_row : FnScope ["self", "row", "word"] ["self", "row"] (defScope st_Run_do_row) := ⟨rfl, rfl, rfl, by decide +kernel, rfl, by decide +kernel, by decide +kernel⟩
def sp_Run_do_row (K : PySem.W.Frag) : SpD := spB 2 1 (b_Run_do_row K)
theorem ok_Run_do_row (T : Tz fac fns sups PG_.main.file exns K mg) : Fd PG_ w K mg base 6 (He.ma K (He.ga K "TrueRun") "do_row") (sp_Run_do_row K) := by
  obtain ⟨fd, F⟩ := T.df 10 (d := df_Run_do_row)
  have bi : Binds K fd ["self", "row"] [] := FunD.bindsN F fun _ _ _ _ _ _ us hl => match us, hl with | [_, _], _ => rfl
  refine ok_def (k := 5) F sc_Run_do_row bi rfl rfl fun cdv A outer s H E hr X eX W tk po => ?_
  subst eX
  unfold b_Run_do_row
  exact (mss_one (ms_if (mt_cmp (od_eq (hu64 hr)) (me_ix (hu1 hr) (me_var 1 (pv 1)) me_int) me_str)
    (mss_cons (ms_set (i := 2) (me_mt (me_var 0 (pv 0)) (T.cls 2) (T.meth 3) (ok_TrueRun_hear T) (hr.mono (by omega)) tk (ma_cons (me_ix (hu1 hr) (me_var 1 (pv 1)) me_int) ma_nil)) fun h => ps_set sc_Run_do_row.nd rfl (by first | exact .inl rfl | exact .inr rfl) h)
    (mss_cons (ms_expr (me_mt (me_var 0 (pv 0)) (T.cls 2) (T.meth 4) (ok_TrueRun_noted T) (hr.mono (by omega)) tk (ma_cons (me_ix (hu1 hr) (me_var 1 (pv 1)) me_int) (ma_cons (me_var 2 (pv 2)) ma_nil))))
    (mss_one (ms_asg (me_var 2 (pv 2)) (mg_sub (hu1 hr) (me_fld (me_var 0 (pv 0))) (me_ix (hu1 hr) (me_var 1 (pv 1)) me_int))))))
    (mss_one (ms_if (mt_cmp (od_eq (hu64 hr)) (me_ix (hu1 hr) (me_var 1 (pv 1)) me_int) me_str)
    (mss_cons (ms_set (i := 2) (me_mt (me_var 0 (pv 0)) (T.cls 2) (T.meth 3) (ok_TrueRun_hear T) (hr.mono (by omega)) tk (ma_cons (me_ix (hu1 hr) (me_var 1 (pv 1)) me_int) ma_nil)) fun h => ps_set sc_Run_do_row.nd rfl (by first | exact .inl rfl | exact .inr rfl) h)
    (mss_cons (ms_expr (me_mt (me_var 0 (pv 0)) (T.cls 2) (T.meth 5) (ok_TrueRun_peeked T) (hr.mono (by omega)) tk (ma_cons (me_ix (hu1 hr) (me_var 1 (pv 1)) me_int) (ma_cons (me_var 2 (pv 2)) ma_nil))))
    (mss_one (ms_asg (me_var 2 (pv 2)) (mg_sub (hu1 hr) (me_fld (me_var 0 (pv 0))) (me_ix (hu1 hr) (me_var 1 (pv 1)) me_int))))))
    (mss_one (ms_if (mt_cmp (od_eq (hu64 hr)) (me_ix (hu1 hr) (me_var 1 (pv 1)) me_int) me_str)
    (mss_one (ms_asg (me_ix (hu1 hr) (me_var 1 (pv 1)) me_int) (mg_sub (hu1 hr) (me_fld (me_var 0 (pv 0))) (me_ix (hu1 hr) (me_var 1 (pv 1)) me_int))))
    (mss_one (ms_if (mt_cmp (od_eq (hu64 hr)) (me_ix (hu1 hr) (me_var 1 (pv 1)) me_int) me_str)
    (mss_cons (ms_fld (me_var 0 (pv 0)) (me_mt (me_var 0 (pv 0)) (T.cls 2) (T.meth 6) (ok_Run_slot_word T) (hr.mono (by omega)) tk (ma_cons (me_ix (hu1 hr) (me_var 1 (pv 1)) me_int) ma_nil)))
    (mss_one (ms_fld (me_var 0 (pv 0)) me_bl)))
    (mss_one (ms_if (mt_cmp (od_eq (hu64 hr)) (me_ix (hu1 hr) (me_var 1 (pv 1)) me_int) me_str)
    (mss_one (ms_expr (me_mt (me_var 0 (pv 0)) (T.cls 2) (T.meth 7) (ok_TrueRun_spoke T) (hr.mono (by omega)) tk (ma_cons (me_mt (me_var 0 (pv 0)) (T.cls 2) (T.meth 6) (ok_Run_slot_word T) (hr.mono (by omega)) tk (ma_cons (me_ix (hu1 hr) (me_var 1 (pv 1)) me_int) ma_nil)) ma_nil))))
    (mss_one (ms_expr (me_mt (me_var 0 (pv 0)) (T.cls 2) (T.meth 8) (ok_TrueRun_wrote T) (hr.mono (by omega)) tk (ma_cons (me_ix (hu1 hr) (me_var 1 (pv 1)) me_int) (ma_cons (me_mt (me_var 0 (pv 0)) (T.cls 2) (T.meth 6) (ok_Run_slot_word T) (hr.mono (by omega)) tk (ma_cons (me_ix (hu1 hr) (me_var 1 (pv 1)) me_int) ma_nil)) ma_nil)))))))))))))))
/-! Run.do_rows: 0 self, 1 rows, 2 path, 3 place, 4 row, 5 here, 6 side -/
def b_Run_do_rows (K : PySem.W.Frag) (rec : SpD) (W : XW) : SM :=
  (mFor (iEnumD (mCons (mVar 1) mNil)) (gT 2 (gC (gNm 3) (gC (gNm 4) gN)))
    (mSeq (mIf (mTru (mFld K (mVar 0) "over"))
    mRetN
    mNx) (mSeq (mAsg (mOp vAdd (mVar 2) (mTup (mCons (mVar 3) mNil))) (gNm 5)) (mSeq (mDrop (mMeth (He.ga K "TrueRun") "did" (sp_Run_did K) W (mVar 0) (mCons (mVar 5) mNil))) (mIf (mB (mOp vEq (mOp vIx (mVar 4) (mC (.int 0))) (mC (.str "if"))))
    (mSeq (mAsg (mIfE (mB (mOp vEq (mMeth (He.ga K "TrueRun") "slot_word" (sp_Run_slot_word K) W (mVar 0) (mCons (mOp vIx (mVar 4) (mC (.int 1))) mNil)) (mOp vIx (mVar 4) (mC (.int 2))))) (mC (.int 0)) (mC (.int 1))) (gNm 6)) (mDrop (mMeth (He.ga K "TrueRun") "do_rows" rec W (mVar 0) (mCons (mOp vIx (mVar 4) (mOp vAdd (mC (.int 3)) (mVar 6))) (mCons (mOp vAdd (mVar 5) (mTup (mCons (mVar 6) mNil))) mNil)))))
    (mDrop (mMeth (He.ga K "TrueRun") "do_row" (sp_Run_do_row K) W (mVar 0) (mCons (mVar 4) mNil))))))))
theorem sc_Run_do_rows : FnScope ["self", "rows", "path", "place", "row", "here", "side"] ["self", "rows", "path"] (defScope st_Run_do_rows) := ⟨rfl, rfl, rfl, by decide +kernel, rfl, by decide +kernel, by decide +kernel⟩
def sp_Run_do_rows (K : PySem.W.Frag) : Nat → SpD
  | 0 => fun _ _ _ _ => False
  | n + 1 => spB 3 4 (b_Run_do_rows K (sp_Run_do_rows K n))
theorem ok_Run_do_rows (T : Tz fac fns sups PG_.main.file exns K mg) : ∀ n, Fd PG_ w K mg base (8 + n) (He.ma K (He.ga K "TrueRun") "do_rows") (sp_Run_do_rows K n) := by
  obtain ⟨fd, F⟩ := T.df 11 (d := df_Run_do_rows)
  have bi : Binds K fd ["self", "rows", "path"] [] := FunD.bindsN F fun _ _ _ _ _ _ us hl => match us, hl with | [_, _, _], _ => rfl
  intro n
  induction n with
  | zero => exact fd_no bi F.kp
  | succ n RC =>
  refine ok_def (k := 8 + n) F sc_Run_do_rows bi rfl rfl fun cdv A outer s H E hr X eX W tk po => ?_
  subst eX
  unfold b_Run_do_rows
  exact (mss_one (ms_for po rfl (mi_enum (ma_cons (me_var 1 (pv 1)) ma_nil) (T.free 9)) (mg_tup rfl (mgs_cons (mg_name (pg_name sc_Run_do_rows.nd rfl (by first | exact .inl rfl | exact .inr rfl))) (mgs_cons (mg_name (pg_name sc_Run_do_rows.nd rfl (by first | exact .inl rfl | exact .inr rfl))) mgs_nil)))
    (mss_cons (ms_if (mt_tru (me_fld (me_var 0 (pv 0))))
    (mss_one ms_retN)
    mss_nil)
    (mss_cons (ms_set (i := 5) (me_op od_add (me_var 2 (pv 2)) (me_tup (ma_cons (me_var 3 (pv 3)) ma_nil))) fun h => ps_set sc_Run_do_rows.nd rfl (by first | exact .inl rfl | exact .inr rfl) h)
    (mss_cons (ms_expr (me_mt (me_var 0 (pv 0)) (T.cls 2) (T.meth 10) (ok_Run_did T) (hr.mono (by omega)) tk (ma_cons (me_var 5 (pv 5)) ma_nil)))
    (mss_one (ms_if (mt_cmp (od_eq (hu64 hr)) (me_ix (hu1 hr) (me_var 4 (pv 4)) me_int) me_str)
    (mss_cons (ms_set (i := 6) (me_if (mt_cmp (od_eq (hu64 hr)) (me_mt (me_var 0 (pv 0)) (T.cls 2) (T.meth 6) (ok_Run_slot_word T) (hr.mono (by omega)) tk (ma_cons (me_ix (hu1 hr) (me_var 4 (pv 4)) me_int) ma_nil)) (me_ix (hu1 hr) (me_var 4 (pv 4)) me_int)) me_int me_int) fun h => ps_set sc_Run_do_rows.nd rfl (by first | exact .inl rfl | exact .inr rfl) h)
    (mss_one (ms_expr (me_mt (me_var 0 (pv 0)) (T.cls 2) (T.meth 11) RC (hr.mono (by omega)) tk (ma_cons (me_ix (hu1 hr) (me_var 4 (pv 4)) (me_op od_add me_int (me_var 6 (pv 6)))) (ma_cons (me_op od_add (me_var 5 (pv 5)) (me_tup (ma_cons (me_var 6 (pv 6)) ma_nil))) ma_nil))))))
    (mss_one (ms_expr (me_mt (me_var 0 (pv 0)) (T.cls 2) (T.meth 12) (ok_Run_do_row T) (hr.mono (by omega)) tk (ma_cons (me_var 4 (pv 4)) ma_nil))))))))) (fun h1 h2 h3 => ps_for po rfl h1 h2 h3)))
/-! are_start_words: 0 program, 1 words, 2 word -/
def b_are_start_words (K : PySem.W.Frag) (W : XW) : SM :=
  (mSeq (mIf (mOr (mNot (mTru (mCB vIsi (mCons (mVar 1) (mCons (mC (.ty "tuple")) mNil))))) (mB (mOp vNe (mCB vLen (mCons (mVar 1) mNil)) (mCB vLen (mCons (mFld K (mVar 0) "sources") mNil)))))
    (mRet (mC (.bl false)))
    mNx) (mSeq (mFor (iSeq (mVar 1)) (gNm 2)
    (mIf (mOr (mNot (mTru (mCB vIsi (mCons (mVar 2) (mCons (mC (.ty "str")) mNil))))) (mB (mOp vNotIn (mVar 2) (mFld K (mVar 0) "words"))))
    (mRet (mC (.bl false)))
    mNx)) (mRet (mC (.bl true)))))
theorem sc_are_start_words : FnScope ["program", "words", "word"] ["program", "words"] (defScope st_are_start_words) := ⟨rfl, rfl, rfl, by decide +kernel, rfl, by decide +kernel, by decide +kernel⟩
def sp_are_start_words (K : PySem.W.Frag) : SpD := spB 2 1 (b_are_start_words K)
theorem ok_are_start_words (T : Tz fac fns sups PG_.main.file exns K mg) : Fd PG_ w K mg base 2 (He.ga K "are_start_words") (sp_are_start_words K) := by
  obtain ⟨fd, F⟩ := T.df 12 (d := df_are_start_words)
  have bi : Binds K fd ["program", "words"] [] := FunD.bindsN F fun _ _ _ _ _ _ us hl => match us, hl with | [_, _], _ => rfl
  refine ok_def (k := 1) F sc_are_start_words bi rfl rfl fun cdv A outer s H E hr X eX W tk po => ?_
  subst eX
  unfold b_are_start_words
  exact (mss_cons (ms_if (MW.mt (mw_or (mt_not (mt_tru (me_callB cd_isi (ma_cons (me_var 1 (pv 1)) (ma_cons (me_ty (T.free 14) boot_tuple) ma_nil)) fun h1 h2 => pe_callB h1 rfl (T.free 15) boot_isinstance h2))) (mw_or1 (mt_cmp (od_ne (hu64 hr)) (me_callB cd_len (ma_cons (me_var 1 (pv 1)) ma_nil) fun h1 h2 => pe_callB h1 rfl (T.free 13) boot_len h2) (me_callB cd_len (ma_cons (me_fld (me_var 0 (pv 0))) ma_nil) fun h1 h2 => pe_callB h1 rfl (T.free 13) boot_len h2)))))
    (mss_one (ms_ret me_bl))
    mss_nil)
    (mss_cons (ms_for po rfl (mi_seq (me_var 1 (pv 1))) (mg_name (pg_name sc_are_start_words.nd rfl (by first | exact .inl rfl | exact .inr rfl)))
    (mss_one (ms_if (MW.mt (mw_or (mt_not (mt_tru (me_callB cd_isi (ma_cons (me_var 2 (pv 2)) (ma_cons (me_ty (T.free 16) boot_str) ma_nil)) fun h1 h2 => pe_callB h1 rfl (T.free 15) boot_isinstance h2))) (mw_or1 (mt_cmp (od_notin (hu65 hr)) (me_var 2 (pv 2)) (me_fld (me_var 0 (pv 0)))))))
    (mss_one (ms_ret me_bl))
    mss_nil)) (fun h1 h2 h3 => ps_for po rfl h1 h2 h3))
    (mss_one (ms_ret me_bl))))
/-! true_table: 0 program, 1 words, 2 table, 3 name, 4 word, 5 index, 6 pair, 7 run -/
def b_true_table (K : PySem.W.Frag) (W : XW) : SM :=
  (mSeq (mIf (mNot (mTru (mCall (sp_are_start_words K) W (mCons (mVar 0) (mCons (mVar 1) mNil)))))
    (mRaise (He.ga K "InvalidStart") "words" W (mCons (mVar 1) mNil))
    mNx) (mSeq (mAsg mDNew (gNm 2)) (mSeq (mFor (iZipD (mCons (mFld K (mVar 0) "sources") (mCons (mVar 1) mNil))) (gT 2 (gC (gNm 3) (gC (gNm 4) gN)))
    (mAsg (mVar 4) (gIx (mVar 2) (mVar 3)))) (mSeq (mFor (iEnumD (mCons (mFld K (mVar 0) "derived") mNil)) (gT 2 (gC (gNm 5) (gC (gNm 6) gN)))
    (mSeq (mAsg (mMake (He.ga K "TrueRun") (sp_TrueRunU_initU K) W (mCons (mOp vIx (mVar 6) (mC (.int 0))) (mCons (mOp vIx (mFld K (mVar 0) "words") (mC (.int 0))) (mCons (mVar 2) mNil)))) (gNm 7)) (mSeq (mDrop (mMeth (He.ga K "TrueRun") "do_rows" (sp_Run_do_rows K 6) W (mVar 7) (mCons (mOp vIx (mVar 6) (mC (.int 1))) (mCons (mTup (mCons (mC (.str "derived")) (mCons (mVar 5) mNil))) mNil)))) (mAsg (mMeth (He.ga K "TrueRun") "held_word" (sp_Run_held_word K) W (mVar 7) mNil) (gIx (mVar 2) (mOp vIx (mVar 6) (mC (.int 0)))))))) (mRet (mVar 2))))))
theorem sc_true_table : FnScope ["program", "words", "table", "name", "word", "index", "pair", "run"] ["program", "words"] (defScope st_true_table) := ⟨rfl, rfl, rfl, by decide +kernel, rfl, by decide +kernel, by decide +kernel⟩
def sp_true_table (K : PySem.W.Frag) : SpD := spB 2 6 (b_true_table K)
theorem ok_true_table (T : Tz fac fns sups PG_.main.file exns K mg) : Fd PG_ w K mg base 16 (He.ga K "true_table") (sp_true_table K) := by
  obtain ⟨fd, F⟩ := T.df 13 (d := df_true_table)
  have bi : Binds K fd ["program", "words"] [] := FunD.bindsN F fun _ _ _ _ _ _ us hl => match us, hl with | [_, _], _ => rfl
  refine ok_def (k := 15) F sc_true_table bi rfl rfl fun cdv A outer s H E hr X eX W tk po => ?_
  subst eX
  unfold b_true_table
  exact (mss_cons (ms_if (mt_not (mt_tru (me_fn (ok_are_start_words T) (hr.mono (by omega)) tk (T.glo 17) (ma_cons (me_var 0 (pv 0)) (ma_cons (me_var 1 (pv 1)) ma_nil)))))
    (mss_one (ms_raise rfl tk (hr.mono (by omega)) (ex_InvalidStart T) (ma_cons (me_var 1 (pv 1)) ma_nil)))
    mss_nil)
    (mss_cons (ms_set (i := 2) me_dnew fun h => ps_set sc_true_table.nd rfl (by first | exact .inl rfl | exact .inr rfl) h)
    (mss_cons (ms_for po rfl (mi_zip (ma_cons (me_fld (me_var 0 (pv 0))) (ma_cons (me_var 1 (pv 1)) ma_nil)) (T.free 18)) (mg_tup rfl (mgs_cons (mg_name (pg_name sc_true_table.nd rfl (by first | exact .inl rfl | exact .inr rfl))) (mgs_cons (mg_name (pg_name sc_true_table.nd rfl (by first | exact .inl rfl | exact .inr rfl))) mgs_nil)))
    (mss_one (ms_asg (me_var 4 (pv 4)) (mg_sub (hu1 hr) (me_var 2 (pv 2)) (me_var 3 (pv 3))))) (fun h1 h2 h3 => ps_for po rfl h1 h2 h3))
    (mss_cons (ms_for po rfl (mi_enum (ma_cons (me_fld (me_var 0 (pv 0))) ma_nil) (T.free 9)) (mg_tup rfl (mgs_cons (mg_name (pg_name sc_true_table.nd rfl (by first | exact .inl rfl | exact .inr rfl))) (mgs_cons (mg_name (pg_name sc_true_table.nd rfl (by first | exact .inl rfl | exact .inr rfl))) mgs_nil)))
    (mss_cons (ms_set (i := 7) (me_make (T.mkr 19) (ok_TrueRunU_initU T) (hr.mono (by omega)) tk (T.glo 20) (ma_cons (me_ix (hu1 hr) (me_var 6 (pv 6)) me_int) (ma_cons (me_ix (hu1 hr) (me_fld (me_var 0 (pv 0))) me_int) (ma_cons (me_var 2 (pv 2)) ma_nil)))) fun h => ps_set sc_true_table.nd rfl (by first | exact .inl rfl | exact .inr rfl) h)
    (mss_cons (ms_expr (me_mt (me_var 7 (pv 7)) (T.cls 2) (T.meth 11) (ok_Run_do_rows T 6) (hr.mono (by omega)) tk (ma_cons (me_ix (hu1 hr) (me_var 6 (pv 6)) me_int) (ma_cons (me_tup (ma_cons me_str (ma_cons (me_var 5 (pv 5)) ma_nil))) ma_nil))))
    (mss_one (ms_asg (me_mt0 (me_var 7 (pv 7)) (T.cls 2) (T.meth 21) (ok_Run_held_word T) (hr.mono (by omega)) tk) (mg_sub (hu1 hr) (me_var 2 (pv 2)) (me_ix (hu1 hr) (me_var 6 (pv 6)) me_int)))))) (fun h1 h2 h3 => ps_for po rfl h1 h2 h3))
    (mss_one (ms_ret (me_var 2 (pv 2))))))))
/-! is_name: 0 value, 1 letter -/
def b_is_name (K : PySem.W.Frag) (W : XW) : SM :=
  (mSeq (mIf (mOr (mNot (mTru (mCB vIsi (mCons (mVar 0) (mCons (mC (.ty "str")) mNil))))) (mNot (mB (mChain vLe vLe (mC (.int 1)) (mCB vLen (mCons (mVar 0) mNil)) (mC (.int 8))))))
    (mRet (mC (.bl false)))
    mNx) (mSeq (mFor (iSeq (mVar 0)) (gNm 1)
    (mIf (mNot (mB (mChain vLe vLe (mC (.str "a")) (mVar 1) (mC (.str "z")))))
    (mRet (mC (.bl false)))
    mNx)) (mRet (mC (.bl true)))))
theorem sc_is_name : FnScope ["value", "letter"] ["value"] (defScope st_is_name) := ⟨rfl, rfl, rfl, by decide +kernel, rfl, by decide +kernel, by decide +kernel⟩
def sp_is_name (K : PySem.W.Frag) : SpD := spB 1 1 (b_is_name K)
theorem ok_is_name (T : Tz fac fns sups PG_.main.file exns K mg) : Fd PG_ w K mg base 2 (He.ga K "is_name") (sp_is_name K) := by
  obtain ⟨fd, F⟩ := T.df 14 (d := df_is_name)
  have bi : Binds K fd ["value"] [] := FunD.bindsN F fun _ _ _ _ _ _ us hl => match us, hl with | [_], _ => rfl
  refine ok_def (k := 1) F sc_is_name bi rfl rfl fun cdv A outer s H E hr X eX W tk po => ?_
  subst eX
  unfold b_is_name
  exact (mss_cons (ms_if (MW.mt (mw_or (mt_not (mt_tru (me_callB cd_isi (ma_cons (me_var 0 (pv 0)) (ma_cons (me_ty (T.free 16) boot_str) ma_nil)) fun h1 h2 => pe_callB h1 rfl (T.free 15) boot_isinstance h2))) (mw_or1 (mt_not (mt_chain od_le od_le me_int (me_callB cd_len (ma_cons (me_var 0 (pv 0)) ma_nil) fun h1 h2 => pe_callB h1 rfl (T.free 13) boot_len h2) me_int)))))
    (mss_one (ms_ret me_bl))
    mss_nil)
    (mss_cons (ms_for po rfl (mi_seq (me_var 0 (pv 0))) (mg_name (pg_name sc_is_name.nd rfl (by first | exact .inl rfl | exact .inr rfl)))
    (mss_one (ms_if (mt_not (mt_chain od_le od_le me_str (me_var 1 (pv 1)) me_str))
    (mss_one (ms_ret me_bl))
    mss_nil)) (fun h1 h2 h3 => ps_for po rfl h1 h2 h3))
    (mss_one (ms_ret me_bl))))
/-! are_names: 0 value, 1 least, 2 most, 3 seen, 4 name -/
def b_are_names (K : PySem.W.Frag) (W : XW) : SM :=
  (mSeq (mIf (mOr (mNot (mTru (mCB vIsi (mCons (mVar 0) (mCons (mC (.ty "tuple")) mNil))))) (mNot (mB (mChain vLe vLe (mVar 1) (mCB vLen (mCons (mVar 0) mNil)) (mVar 2)))))
    (mRet (mC (.bl false)))
    mNx) (mSeq (mAsg (mCB vSet0 mNil) (gNm 3)) (mSeq (mFor (iSeq (mVar 0)) (gNm 4)
    (mSeq (mIf (mOr (mNot (mTru (mCall (sp_is_name K) W (mCons (mVar 4) mNil)))) (mB (mOp vIn (mVar 4) (mVar 3))))
    (mRet (mC (.bl false)))
    mNx) (mDrop (mAdd (mVar 3) (mCons (mVar 4) mNil))))) (mRet (mC (.bl true))))))
theorem sc_are_names : FnScope ["value", "least", "most", "seen", "name"] ["value", "least", "most"] (defScope st_are_names) := ⟨rfl, rfl, rfl, by decide +kernel, rfl, by decide +kernel, by decide +kernel⟩
def sp_are_names (K : PySem.W.Frag) : SpD := spB 3 2 (b_are_names K)
theorem ok_are_names (T : Tz fac fns sups PG_.main.file exns K mg) : Fd PG_ w K mg base 4 (He.ga K "are_names") (sp_are_names K) := by
  obtain ⟨fd, F⟩ := T.df 15 (d := df_are_names)
  have bi : Binds K fd ["value", "least", "most"] [] := FunD.bindsN F fun _ _ _ _ _ _ us hl => match us, hl with | [_, _, _], _ => rfl
  refine ok_def (k := 3) F sc_are_names bi rfl rfl fun cdv A outer s H E hr X eX W tk po => ?_
  subst eX
  unfold b_are_names
  exact (mss_cons (ms_if (MW.mt (mw_or (mt_not (mt_tru (me_callB cd_isi (ma_cons (me_var 0 (pv 0)) (ma_cons (me_ty (T.free 14) boot_tuple) ma_nil)) fun h1 h2 => pe_callB h1 rfl (T.free 15) boot_isinstance h2))) (mw_or1 (mt_not (mt_chain od_le od_le (me_var 1 (pv 1)) (me_callB cd_len (ma_cons (me_var 0 (pv 0)) ma_nil) fun h1 h2 => pe_callB h1 rfl (T.free 13) boot_len h2) (me_var 2 (pv 2)))))))
    (mss_one (ms_ret me_bl))
    mss_nil)
    (mss_cons (ms_set (i := 3) (me_callT0 cd_set0 fun h1 => pe_callTy0 h1 rfl (T.free 22) boot_set) fun h => ps_set sc_are_names.nd rfl (by first | exact .inl rfl | exact .inr rfl) h)
    (mss_cons (ms_for po rfl (mi_seq (me_var 0 (pv 0))) (mg_name (pg_name sc_are_names.nd rfl (by first | exact .inl rfl | exact .inr rfl)))
    (mss_cons (ms_if (MW.mt (mw_or (mt_not (mt_tru (me_fn (ok_is_name T) (hr.mono (by omega)) tk (T.glo 23) (ma_cons (me_var 4 (pv 4)) ma_nil)))) (mw_or1 (mt_cmp (od_in (hu65 hr)) (me_var 4 (pv 4)) (me_var 3 (pv 3))))))
    (mss_one (ms_ret me_bl))
    mss_nil)
    (mss_one (ms_expr (me_add (me_var 3 (pv 3)) (ma_cons (me_var 4 (pv 4)) ma_nil))))) (fun h1 h2 h3 => ps_for po rfl h1 h2 h3))
    (mss_one (ms_ret me_bl)))))
/-! are_pairs: 0 value, 1 most, 2 taken, 3 seen, 4 pair -/
def b_are_pairs (K : PySem.W.Frag) (W : XW) : SM :=
  (mSeq (mIf (mOr (mNot (mTru (mCB vIsi (mCons (mVar 0) (mCons (mC (.ty "tuple")) mNil))))) (mB (mOp vGt (mCB vLen (mCons (mVar 0) mNil)) (mVar 1))))
    (mRet (mC (.bl false)))
    mNx) (mSeq (mAsg (mCB vDict (mCons (mVar 2) mNil)) (gNm 3)) (mSeq (mFor (iSeq (mVar 0)) (gNm 4)
    (mSeq (mIf (mOr (mNot (mTru (mCB vIsi (mCons (mVar 4) (mCons (mC (.ty "tuple")) mNil))))) (mB (mOp vNe (mCB vLen (mCons (mVar 4) mNil)) (mC (.int 2)))))
    (mRet (mC (.bl false)))
    mNx) (mSeq (mIf (mOr (mNot (mTru (mCall (sp_is_name K) W (mCons (mOp vIx (mVar 4) (mC (.int 0))) mNil)))) (mB (mOp vIn (mOp vIx (mVar 4) (mC (.int 0))) (mVar 3))))
    (mRet (mC (.bl false)))
    mNx) (mAsg (mC (.bl true)) (gIx (mVar 3) (mOp vIx (mVar 4) (mC (.int 0)))))))) (mRet (mC (.bl true))))))
theorem sc_are_pairs : FnScope ["value", "most", "taken", "seen", "pair"] ["value", "most", "taken"] (defScope st_are_pairs) := ⟨rfl, rfl, rfl, by decide +kernel, rfl, by decide +kernel, by decide +kernel⟩
def sp_are_pairs (K : PySem.W.Frag) : SpD := spB 3 2 (b_are_pairs K)
theorem ok_are_pairs (T : Tz fac fns sups PG_.main.file exns K mg) : Fd PG_ w K mg base 4 (He.ga K "are_pairs") (sp_are_pairs K) := by
  obtain ⟨fd, F⟩ := T.df 16 (d := df_are_pairs)
  have bi : Binds K fd ["value", "most", "taken"] [] := FunD.bindsN F fun _ _ _ _ _ _ us hl => match us, hl with | [_, _, _], _ => rfl
  refine ok_def (k := 3) F sc_are_pairs bi rfl rfl fun cdv A outer s H E hr X eX W tk po => ?_
  subst eX
  unfold b_are_pairs
  exact (mss_cons (ms_if (MW.mt (mw_or (mt_not (mt_tru (me_callB cd_isi (ma_cons (me_var 0 (pv 0)) (ma_cons (me_ty (T.free 14) boot_tuple) ma_nil)) fun h1 h2 => pe_callB h1 rfl (T.free 15) boot_isinstance h2))) (mw_or1 (mt_cmp od_gt (me_callB cd_len (ma_cons (me_var 0 (pv 0)) ma_nil) fun h1 h2 => pe_callB h1 rfl (T.free 13) boot_len h2) (me_var 1 (pv 1))))))
    (mss_one (ms_ret me_bl))
    mss_nil)
    (mss_cons (ms_set (i := 3) (me_callT cd_dict (ma_cons (me_var 2 (pv 2)) ma_nil) fun h1 h2 => pe_callTy h1 rfl (T.free 24) boot_dict h2) fun h => ps_set sc_are_pairs.nd rfl (by first | exact .inl rfl | exact .inr rfl) h)
    (mss_cons (ms_for po rfl (mi_seq (me_var 0 (pv 0))) (mg_name (pg_name sc_are_pairs.nd rfl (by first | exact .inl rfl | exact .inr rfl)))
    (mss_cons (ms_if (MW.mt (mw_or (mt_not (mt_tru (me_callB cd_isi (ma_cons (me_var 4 (pv 4)) (ma_cons (me_ty (T.free 14) boot_tuple) ma_nil)) fun h1 h2 => pe_callB h1 rfl (T.free 15) boot_isinstance h2))) (mw_or1 (mt_cmp (od_ne (hu64 hr)) (me_callB cd_len (ma_cons (me_var 4 (pv 4)) ma_nil) fun h1 h2 => pe_callB h1 rfl (T.free 13) boot_len h2) me_int))))
    (mss_one (ms_ret me_bl))
    mss_nil)
    (mss_cons (ms_if (MW.mt (mw_or (mt_not (mt_tru (me_fn (ok_is_name T) (hr.mono (by omega)) tk (T.glo 23) (ma_cons (me_ix (hu1 hr) (me_var 4 (pv 4)) me_int) ma_nil)))) (mw_or1 (mt_cmp (od_in (hu65 hr)) (me_ix (hu1 hr) (me_var 4 (pv 4)) me_int) (me_var 3 (pv 3))))))
    (mss_one (ms_ret me_bl))
    mss_nil)
    (mss_one (ms_asg me_bl (mg_sub (hu1 hr) (me_var 3 (pv 3)) (me_ix (hu1 hr) (me_var 4 (pv 4)) me_int)))))) (fun h1 h2 h3 => ps_for po rfl h1 h2 h3))
    (mss_one (ms_ret me_bl)))))
/-! count_rows: 0 rows, 1 total, 2 row -/
def b_count_rows (K : PySem.W.Frag) (rec : SpD) (W : XW) : SM :=
  (mSeq (mAsg (mCB vLen (mCons (mVar 0) mNil)) (gNm 1)) (mSeq (mFor (iSeq (mVar 0)) (gNm 2)
    (mIf (mB (mOp vEq (mOp vIx (mVar 2) (mC (.int 0))) (mC (.str "if"))))
    (mAug 1 (mOp vAdd (mCall rec W (mCons (mOp vIx (mVar 2) (mC (.int 3))) mNil)) (mCall rec W (mCons (mOp vIx (mVar 2) (mC (.int 4))) mNil))) vIadd)
    mNx)) (mRet (mVar 1))))
theorem sc_count_rows : FnScope ["rows", "total", "row"] ["rows"] (defScope st_count_rows) := ⟨rfl, rfl, rfl, by decide +kernel, rfl, by decide +kernel, by decide +kernel⟩
def sp_count_rows (K : PySem.W.Frag) : Nat → SpD
  | 0 => fun _ _ _ _ => False
  | n + 1 => spB 1 2 (b_count_rows K (sp_count_rows K n))
theorem ok_count_rows (T : Tz fac fns sups PG_.main.file exns K mg) : ∀ n, Fd PG_ w K mg base (2 + n) (He.ga K "count_rows") (sp_count_rows K n) := by
  obtain ⟨fd, F⟩ := T.df 17 (d := df_count_rows)
  have bi : Binds K fd ["rows"] [] := FunD.bindsN F fun _ _ _ _ _ _ us hl => match us, hl with | [_], _ => rfl
  intro n
  induction n with
  | zero => exact fd_no bi F.kp
  | succ n RC =>
  refine ok_def (k := 2 + n) F sc_count_rows bi rfl rfl fun cdv A outer s H E hr X eX W tk po => ?_
  subst eX
  unfold b_count_rows
  exact (mss_cons (ms_set (i := 1) (me_callB cd_len (ma_cons (me_var 0 (pv 0)) ma_nil) fun h1 h2 => pe_callB h1 rfl (T.free 13) boot_len h2) fun h => ps_set sc_count_rows.nd rfl (by first | exact .inl rfl | exact .inr rfl) h)
    (mss_cons (ms_for po rfl (mi_seq (me_var 0 (pv 0))) (mg_name (pg_name sc_count_rows.nd rfl (by first | exact .inl rfl | exact .inr rfl)))
    (mss_one (ms_if (mt_cmp (od_eq (hu64 hr)) (me_ix (hu1 hr) (me_var 2 (pv 2)) me_int) me_str)
    (mss_one (ms_aug (i := 1) (me_op od_add (me_fn RC (hr.mono (by omega)) tk (T.glo 25) (ma_cons (me_ix (hu1 hr) (me_var 2 (pv 2)) me_int) ma_nil)) (me_fn RC (hr.mono (by omega)) tk (T.glo 25) (ma_cons (me_ix (hu1 hr) (me_var 2 (pv 2)) me_int) ma_nil))) od_iad fun h1 h2 => ps_aug sc_count_rows.nd rfl (by first | exact .inl rfl | exact .inr rfl) h1 h2))
    mss_nil)) (fun h1 h2 h3 => ps_for po rfl h1 h2 h3))
    (mss_one (ms_ret (me_var 1 (pv 1))))))
/-! BodyCheck.__init__: 0 self, 1 kind, 2 words, 3 sources, 4 readable -/
def b_BodyCheckU_initU (K : PySem.W.Frag) (W : XW) : SM :=
  (mSeq (mSetF K (mVar 0) (mVar 1) "kind") (mSeq (mSetF K (mVar 0) (mVar 2) "words") (mSeq (mSetF K (mVar 0) (mVar 3) "sources") (mSetF K (mVar 0) (mVar 4) "readable"))))
theorem sc_BodyCheckU_initU : FnScope ["self", "kind", "words", "sources", "readable"] ["self", "kind", "words", "sources", "readable"] (defScope st_BodyCheckU_initU) := ⟨rfl, rfl, rfl, by decide +kernel, rfl, by decide +kernel, by decide +kernel⟩
def sp_BodyCheckU_initU (K : PySem.W.Frag) : SpD := spB 5 0 (b_BodyCheckU_initU K)
theorem ok_BodyCheckU_initU (T : Tz fac fns sups PG_.main.file exns K mg) : Fd PG_ w K mg base 2 (He.ma K (He.ga K "BodyCheck") "__init__") (sp_BodyCheckU_initU K) := by
  obtain ⟨fd, F⟩ := T.df 18 (d := df_BodyCheckU_initU)
  have bi : Binds K fd ["self", "kind", "words", "sources", "readable"] [] := FunD.bindsN F fun _ _ _ _ _ _ us hl => match us, hl with | [_, _, _, _, _], _ => rfl
  refine ok_def (k := 1) F sc_BodyCheckU_initU bi rfl rfl fun cdv A outer s H E hr X eX W tk po => ?_
  subst eX
  unfold b_BodyCheckU_initU
  exact (mss_cons (ms_fld (me_var 0 (pv 0)) (me_var 1 (pv 1)))
    (mss_cons (ms_fld (me_var 0 (pv 0)) (me_var 2 (pv 2)))
    (mss_cons (ms_fld (me_var 0 (pv 0)) (me_var 3 (pv 3)))
    (mss_one (ms_fld (me_var 0 (pv 0)) (me_var 4 (pv 4)))))))
/-! BodyCheck.is_word: 0 self, 1 value -/
def b_BodyCheck_is_word (K : PySem.W.Frag) (W : XW) : SM :=
  (mRet (mAndV (mCB vIsi (mCons (mVar 1) (mCons (mC (.ty "str")) mNil))) (mOp vIn (mVar 1) (mFld K (mVar 0) "words"))))
theorem sc_BodyCheck_is_word : FnScope ["self", "value"] ["self", "value"] (defScope st_BodyCheck_is_word) := ⟨rfl, rfl, rfl, by decide +kernel, rfl, by decide +kernel, by decide +kernel⟩
def sp_BodyCheck_is_word (K : PySem.W.Frag) : SpD := spB 2 0 (b_BodyCheck_is_word K)
theorem ok_BodyCheck_is_word (T : Tz fac fns sups PG_.main.file exns K mg) : Fd PG_ w K mg base 2 (He.ma K (He.ga K "BodyCheck") "is_word") (sp_BodyCheck_is_word K) := by
  obtain ⟨fd, F⟩ := T.df 19 (d := df_BodyCheck_is_word)
  have bi : Binds K fd ["self", "value"] [] := FunD.bindsN F fun _ _ _ _ _ _ us hl => match us, hl with | [_, _], _ => rfl
  refine ok_def (k := 1) F sc_BodyCheck_is_word bi rfl rfl fun cdv A outer s H E hr X eX W tk po => ?_
  subst eX
  unfold b_BodyCheck_is_word
  exact (mss_one (ms_ret (me_and (me_callB cd_isi (ma_cons (me_var 1 (pv 1)) (ma_cons (me_ty (T.free 16) boot_str) ma_nil)) fun h1 h2 => pe_callB h1 rfl (T.free 15) boot_isinstance h2) (me_one (me_cmp (od_in (hu65 hr)) (me_var 1 (pv 1)) (me_fld (me_var 0 (pv 0))))))))
/-! BodyCheck.is_choice: 0 self, 1 row, 2 depth -/
def b_BodyCheck_is_choice (K : PySem.W.Frag) (W : XW) : SM :=
  (mSeq (mIf (mOr (mB (mOp vNe (mCB vLen (mCons (mVar 1) mNil)) (mC (.int 5)))) (mB (mOp vGe (mVar 2) (mC (.int 4)))))
    (mRet (mC (.bl false)))
    mNx) (mSeq (mIf (mOr (mNot (mTru (mCall (sp_is_name K) W (mCons (mOp vIx (mVar 1) (mC (.int 1))) mNil)))) (mNot (mTru (mMeth (He.ga K "BodyCheck") "is_word" (sp_BodyCheck_is_word K) W (mVar 0) (mCons (mOp vIx (mVar 1) (mC (.int 2))) mNil)))))
    (mRet (mC (.bl false)))
    mNx) (mRet (mAndV (mCB vIsi (mCons (mOp vIx (mVar 1) (mC (.int 3))) (mCons (mC (.ty "tuple")) mNil))) (mCB vIsi (mCons (mOp vIx (mVar 1) (mC (.int 4))) (mCons (mC (.ty "tuple")) mNil)))))))
theorem sc_BodyCheck_is_choice : FnScope ["self", "row", "depth"] ["self", "row", "depth"] (defScope st_BodyCheck_is_choice) := ⟨rfl, rfl, rfl, by decide +kernel, rfl, by decide +kernel, by decide +kernel⟩
def sp_BodyCheck_is_choice (K : PySem.W.Frag) : SpD := spB 3 0 (b_BodyCheck_is_choice K)
theorem ok_BodyCheck_is_choice (T : Tz fac fns sups PG_.main.file exns K mg) : Fd PG_ w K mg base 4 (He.ma K (He.ga K "BodyCheck") "is_choice") (sp_BodyCheck_is_choice K) := by
  obtain ⟨fd, F⟩ := T.df 20 (d := df_BodyCheck_is_choice)
  have bi : Binds K fd ["self", "row", "depth"] [] := FunD.bindsN F fun _ _ _ _ _ _ us hl => match us, hl with | [_, _, _], _ => rfl
  refine ok_def (k := 3) F sc_BodyCheck_is_choice bi rfl rfl fun cdv A outer s H E hr X eX W tk po => ?_
  subst eX
  unfold b_BodyCheck_is_choice
  exact (mss_cons (ms_if (MW.mt (mw_or (mt_cmp (od_ne (hu64 hr)) (me_callB cd_len (ma_cons (me_var 1 (pv 1)) ma_nil) fun h1 h2 => pe_callB h1 rfl (T.free 13) boot_len h2) me_int) (mw_or1 (mt_cmp od_ge (me_var 2 (pv 2)) (me_gint (T.int 26))))))
    (mss_one (ms_ret me_bl))
    mss_nil)
    (mss_cons (ms_if (MW.mt (mw_or (mt_not (mt_tru (me_fn (ok_is_name T) (hr.mono (by omega)) tk (T.glo 23) (ma_cons (me_ix (hu1 hr) (me_var 1 (pv 1)) me_int) ma_nil)))) (mw_or1 (mt_not (mt_tru (me_mt (me_var 0 (pv 0)) (T.cls 27) (T.meth 28) (ok_BodyCheck_is_word T) (hr.mono (by omega)) tk (ma_cons (me_ix (hu1 hr) (me_var 1 (pv 1)) me_int) ma_nil)))))))
    (mss_one (ms_ret me_bl))
    mss_nil)
    (mss_one (ms_ret (me_and (me_callB cd_isi (ma_cons (me_ix (hu1 hr) (me_var 1 (pv 1)) me_int) (ma_cons (me_ty (T.free 14) boot_tuple) ma_nil)) fun h1 h2 => pe_callB h1 rfl (T.free 15) boot_isinstance h2) (me_one (me_callB cd_isi (ma_cons (me_ix (hu1 hr) (me_var 1 (pv 1)) me_int) (ma_cons (me_ty (T.free 14) boot_tuple) ma_nil)) fun h1 h2 => pe_callB h1 rfl (T.free 15) boot_isinstance h2)))))))
/-! BodyCheck.is_row: 0 self, 1 row, 2 depth, 3 wanted -/
def b_BodyCheck_is_row (K : PySem.W.Frag) (W : XW) : SM :=
  (mSeq (mIf (mOr (mNot (mTru (mCB vIsi (mCons (mVar 1) (mCons (mC (.ty "tuple")) mNil))))) (mOr (mB (mOp vLt (mCB vLen (mCons (mVar 1) mNil)) (mC (.int 2)))) (mNot (mTru (mCB vIsi (mCons (mOp vIx (mVar 1) (mC (.int 0))) (mCons (mC (.ty "str")) mNil)))))))
    (mRet (mC (.bl false)))
    mNx) (mSeq (mIf (mB (mOp vEq (mOp vIx (mVar 1) (mC (.int 0))) (mC (.str "if"))))
    (mRet (mMeth (He.ga K "BodyCheck") "is_choice" (sp_BodyCheck_is_choice K) W (mVar 0) (mCons (mVar 1) (mCons (mVar 2) mNil))))
    mNx) (mSeq (mIf (mB (mOp vIn (mOp vIx (mVar 1) (mC (.int 0))) (mTup (mCons (mC (.str "give")) (mCons (mC (.str "say")) mNil)))))
    (mSeq (mAsg (mIfE (mB (mOp vEq (mOp vIx (mVar 1) (mC (.int 0))) (mC (.str "give")))) (mC (.str "derived")) (mC (.str "effects"))) (gNm 3)) (mRet (mAndV (mOp vEq (mFld K (mVar 0) "kind") (mVar 3)) (mAndV (mOp vEq (mCB vLen (mCons (mVar 1) mNil)) (mC (.int 2))) (mCall (sp_is_name K) W (mCons (mOp vIx (mVar 1) (mC (.int 1))) mNil))))))
    mNx) (mSeq (mIf (mB (mOp vNe (mCB vLen (mCons (mVar 1) mNil)) (mC (.int 3))))
    (mRet (mC (.bl false)))
    mNx) (mSeq (mIf (mB (mOp vEq (mOp vIx (mVar 1) (mC (.int 0))) (mC (.str "put"))))
    (mRet (mAndV (mCall (sp_is_name K) W (mCons (mOp vIx (mVar 1) (mC (.int 1))) mNil)) (mMeth (He.ga K "BodyCheck") "is_word" (sp_BodyCheck_is_word K) W (mVar 0) (mCons (mOp vIx (mVar 1) (mC (.int 2))) mNil))))
    mNx) (mSeq (mIf (mOr (mNot (mTru (mCall (sp_is_name K) W (mCons (mOp vIx (mVar 1) (mC (.int 1))) mNil)))) (mNot (mTru (mCall (sp_is_name K) W (mCons (mOp vIx (mVar 1) (mC (.int 2))) mNil)))))
    (mRet (mC (.bl false)))
    mNx) (mSeq (mIf (mB (mOp vEq (mOp vIx (mVar 1) (mC (.int 0))) (mC (.str "read"))))
    (mRet (mOp vIn (mOp vIx (mVar 1) (mC (.int 1))) (mFld K (mVar 0) "readable")))
    mNx) (mSeq (mIf (mB (mOp vNe (mFld K (mVar 0) "kind") (mC (.str "effects"))))
    (mRet (mC (.bl false)))
    mNx) (mSeq (mIf (mB (mOp vEq (mOp vIx (mVar 1) (mC (.int 0))) (mC (.str "peek"))))
    (mRet (mOp vIn (mOp vIx (mVar 1) (mC (.int 1))) (mFld K (mVar 0) "readable")))
    mNx) (mRet (mAndV (mOp vEq (mOp vIx (mVar 1) (mC (.int 0))) (mC (.str "write"))) (mOp vIn (mOp vIx (mVar 1) (mC (.int 1))) (mFld K (mVar 0) "sources")))))))))))))
theorem sc_BodyCheck_is_row : FnScope ["self", "row", "depth", "wanted"] ["self", "row", "depth"] (defScope st_BodyCheck_is_row) := ⟨rfl, rfl, rfl, by decide +kernel, rfl, by decide +kernel, by decide +kernel⟩
def sp_BodyCheck_is_row (K : PySem.W.Frag) : SpD := spB 3 1 (b_BodyCheck_is_row K)
theorem ok_BodyCheck_is_row (T : Tz fac fns sups PG_.main.file exns K mg) : Fd PG_ w K mg base 6 (He.ma K (He.ga K "BodyCheck") "is_row") (sp_BodyCheck_is_row K) := by
  obtain ⟨fd, F⟩ := T.df 21 (d := df_BodyCheck_is_row)
  have bi : Binds K fd ["self", "row", "depth"] [] := FunD.bindsN F fun _ _ _ _ _ _ us hl => match us, hl with | [_, _, _], _ => rfl
  refine ok_def (k := 5) F sc_BodyCheck_is_row bi rfl rfl fun cdv A outer s H E hr X eX W tk po => ?_
  subst eX
  unfold b_BodyCheck_is_row
  exact (mss_cons (ms_if (MW.mt (mw_or (mt_not (mt_tru (me_callB cd_isi (ma_cons (me_var 1 (pv 1)) (ma_cons (me_ty (T.free 14) boot_tuple) ma_nil)) fun h1 h2 => pe_callB h1 rfl (T.free 15) boot_isinstance h2))) (mw_or (mt_cmp od_lt (me_callB cd_len (ma_cons (me_var 1 (pv 1)) ma_nil) fun h1 h2 => pe_callB h1 rfl (T.free 13) boot_len h2) me_int) (mw_or1 (mt_not (mt_tru (me_callB cd_isi (ma_cons (me_ix (hu1 hr) (me_var 1 (pv 1)) me_int) (ma_cons (me_ty (T.free 16) boot_str) ma_nil)) fun h1 h2 => pe_callB h1 rfl (T.free 15) boot_isinstance h2)))))))
    (mss_one (ms_ret me_bl))
    mss_nil)
    (mss_cons (ms_if (mt_cmp (od_eq (hu64 hr)) (me_ix (hu1 hr) (me_var 1 (pv 1)) me_int) me_str)
    (mss_one (ms_ret (me_mt (me_var 0 (pv 0)) (T.cls 27) (T.meth 29) (ok_BodyCheck_is_choice T) (hr.mono (by omega)) tk (ma_cons (me_var 1 (pv 1)) (ma_cons (me_var 2 (pv 2)) ma_nil)))))
    mss_nil)
    (mss_cons (ms_if (mt_cmp (od_in (hu65 hr)) (me_ix (hu1 hr) (me_var 1 (pv 1)) me_int) (me_tup (ma_cons me_str (ma_cons me_str ma_nil))))
    (mss_cons (ms_set (i := 3) (me_if (mt_cmp (od_eq (hu64 hr)) (me_ix (hu1 hr) (me_var 1 (pv 1)) me_int) me_str) me_str me_str) fun h => ps_set sc_BodyCheck_is_row.nd rfl (by first | exact .inl rfl | exact .inr rfl) h)
    (mss_one (ms_ret (me_and (me_cmp (od_eq (hu64 hr)) (me_fld (me_var 0 (pv 0))) (me_var 3 (pv 3))) (me_and (me_cmp (od_eq (hu64 hr)) (me_callB cd_len (ma_cons (me_var 1 (pv 1)) ma_nil) fun h1 h2 => pe_callB h1 rfl (T.free 13) boot_len h2) me_int) (me_one (me_fn (ok_is_name T) (hr.mono (by omega)) tk (T.glo 23) (ma_cons (me_ix (hu1 hr) (me_var 1 (pv 1)) me_int) ma_nil))))))))
    mss_nil)
    (mss_cons (ms_if (mt_cmp (od_ne (hu64 hr)) (me_callB cd_len (ma_cons (me_var 1 (pv 1)) ma_nil) fun h1 h2 => pe_callB h1 rfl (T.free 13) boot_len h2) me_int)
    (mss_one (ms_ret me_bl))
    mss_nil)
    (mss_cons (ms_if (mt_cmp (od_eq (hu64 hr)) (me_ix (hu1 hr) (me_var 1 (pv 1)) me_int) me_str)
    (mss_one (ms_ret (me_and (me_fn (ok_is_name T) (hr.mono (by omega)) tk (T.glo 23) (ma_cons (me_ix (hu1 hr) (me_var 1 (pv 1)) me_int) ma_nil)) (me_one (me_mt (me_var 0 (pv 0)) (T.cls 27) (T.meth 28) (ok_BodyCheck_is_word T) (hr.mono (by omega)) tk (ma_cons (me_ix (hu1 hr) (me_var 1 (pv 1)) me_int) ma_nil))))))
    mss_nil)
    (mss_cons (ms_if (MW.mt (mw_or (mt_not (mt_tru (me_fn (ok_is_name T) (hr.mono (by omega)) tk (T.glo 23) (ma_cons (me_ix (hu1 hr) (me_var 1 (pv 1)) me_int) ma_nil)))) (mw_or1 (mt_not (mt_tru (me_fn (ok_is_name T) (hr.mono (by omega)) tk (T.glo 23) (ma_cons (me_ix (hu1 hr) (me_var 1 (pv 1)) me_int) ma_nil)))))))
    (mss_one (ms_ret me_bl))
    mss_nil)
    (mss_cons (ms_if (mt_cmp (od_eq (hu64 hr)) (me_ix (hu1 hr) (me_var 1 (pv 1)) me_int) me_str)
    (mss_one (ms_ret (me_cmp (od_in (hu65 hr)) (me_ix (hu1 hr) (me_var 1 (pv 1)) me_int) (me_fld (me_var 0 (pv 0))))))
    mss_nil)
    (mss_cons (ms_if (mt_cmp (od_ne (hu64 hr)) (me_fld (me_var 0 (pv 0))) me_str)
    (mss_one (ms_ret me_bl))
    mss_nil)
    (mss_cons (ms_if (mt_cmp (od_eq (hu64 hr)) (me_ix (hu1 hr) (me_var 1 (pv 1)) me_int) me_str)
    (mss_one (ms_ret (me_cmp (od_in (hu65 hr)) (me_ix (hu1 hr) (me_var 1 (pv 1)) me_int) (me_fld (me_var 0 (pv 0))))))
    mss_nil)
    (mss_one (ms_ret (me_and (me_cmp (od_eq (hu64 hr)) (me_ix (hu1 hr) (me_var 1 (pv 1)) me_int) me_str) (me_one (me_cmp (od_in (hu65 hr)) (me_ix (hu1 hr) (me_var 1 (pv 1)) me_int) (me_fld (me_var 0 (pv 0)))))))))))))))))
/-! BodyCheck.first_wrong: 0 self, 1 rows, 2 path, 3 depth, 4 place, 5 row, 6 here, 7 side, 8 found -/
def b_BodyCheck_first_wrong (K : PySem.W.Frag) (rec : SpD) (W : XW) : SM :=
  (mSeq (mFor (iEnumD (mCons (mVar 1) mNil)) (gT 2 (gC (gNm 4) (gC (gNm 5) gN)))
    (mSeq (mAsg (mOp vAdd (mVar 2) (mTup (mCons (mVar 4) mNil))) (gNm 6)) (mSeq (mIf (mNot (mTru (mMeth (He.ga K "BodyCheck") "is_row" (sp_BodyCheck_is_row K) W (mVar 0) (mCons (mVar 5) (mCons (mVar 3) mNil)))))
    (mRet (mVar 6))
    mNx) (mIf (mB (mOp vEq (mOp vIx (mVar 5) (mC (.int 0))) (mC (.str "if"))))
    (mFor (iSeq (mTup (mCons (mC (.int 0)) (mCons (mC (.int 1)) mNil)))) (gNm 7)
    (mSeq (mAsg (mMeth (He.ga K "BodyCheck") "first_wrong" rec W (mVar 0) (mCons (mOp vIx (mVar 5) (mOp vAdd (mC (.int 3)) (mVar 7))) (mCons (mOp vAdd (mVar 6) (mTup (mCons (mVar 7) mNil))) (mCons (mOp vAdd (mVar 3) (mC (.int 1))) mNil)))) (gNm 8)) (mIf (mB (mOp vIsNot (mVar 8) (mC .non)))
    (mRet (mVar 8))
    mNx)))
    mNx)))) (mRet (mC .non)))
theorem sc_BodyCheck_first_wrong : FnScope ["self", "rows", "path", "depth", "place", "row", "here", "side", "found"] ["self", "rows", "path", "depth"] (defScope st_BodyCheck_first_wrong) := ⟨rfl, rfl, rfl, by decide +kernel, rfl, by decide +kernel, by decide +kernel⟩
def sp_BodyCheck_first_wrong (K : PySem.W.Frag) : Nat → SpD
  | 0 => fun _ _ _ _ => False
  | n + 1 => spB 4 5 (b_BodyCheck_first_wrong K (sp_BodyCheck_first_wrong K n))
theorem ok_BodyCheck_first_wrong (T : Tz fac fns sups PG_.main.file exns K mg) : ∀ n, Fd PG_ w K mg base (8 + n) (He.ma K (He.ga K "BodyCheck") "first_wrong") (sp_BodyCheck_first_wrong K n) := by
  obtain ⟨fd, F⟩ := T.df 22 (d := df_BodyCheck_first_wrong)
  have bi : Binds K fd ["self", "rows", "path", "depth"] [] := FunD.bindsN F fun _ _ _ _ _ _ us hl => match us, hl with | [_, _, _, _], _ => rfl
  intro n
  induction n with
  | zero => exact fd_no bi F.kp
  | succ n RC =>
  refine ok_def (k := 8 + n) F sc_BodyCheck_first_wrong bi rfl rfl fun cdv A outer s H E hr X eX W tk po => ?_
  subst eX
  unfold b_BodyCheck_first_wrong
  exact (mss_cons (ms_for po rfl (mi_enum (ma_cons (me_var 1 (pv 1)) ma_nil) (T.free 9)) (mg_tup rfl (mgs_cons (mg_name (pg_name sc_BodyCheck_first_wrong.nd rfl (by first | exact .inl rfl | exact .inr rfl))) (mgs_cons (mg_name (pg_name sc_BodyCheck_first_wrong.nd rfl (by first | exact .inl rfl | exact .inr rfl))) mgs_nil)))
    (mss_cons (ms_set (i := 6) (me_op od_add (me_var 2 (pv 2)) (me_tup (ma_cons (me_var 4 (pv 4)) ma_nil))) fun h => ps_set sc_BodyCheck_first_wrong.nd rfl (by first | exact .inl rfl | exact .inr rfl) h)
    (mss_cons (ms_if (mt_not (mt_tru (me_mt (me_var 0 (pv 0)) (T.cls 27) (T.meth 30) (ok_BodyCheck_is_row T) (hr.mono (by omega)) tk (ma_cons (me_var 5 (pv 5)) (ma_cons (me_var 3 (pv 3)) ma_nil)))))
    (mss_one (ms_ret (me_var 6 (pv 6))))
    mss_nil)
    (mss_one (ms_if (mt_cmp (od_eq (hu64 hr)) (me_ix (hu1 hr) (me_var 5 (pv 5)) me_int) me_str)
    (mss_one (ms_for po rfl (mi_seq (me_tup (ma_cons me_int (ma_cons me_int ma_nil)))) (mg_name (pg_name sc_BodyCheck_first_wrong.nd rfl (by first | exact .inl rfl | exact .inr rfl)))
    (mss_cons (ms_set (i := 8) (me_mt (me_var 0 (pv 0)) (T.cls 27) (T.meth 31) RC (hr.mono (by omega)) tk (ma_cons (me_ix (hu1 hr) (me_var 5 (pv 5)) (me_op od_add me_int (me_var 7 (pv 7)))) (ma_cons (me_op od_add (me_var 6 (pv 6)) (me_tup (ma_cons (me_var 7 (pv 7)) ma_nil))) (ma_cons (me_op od_add (me_var 3 (pv 3)) me_int) ma_nil)))) fun h => ps_set sc_BodyCheck_first_wrong.nd rfl (by first | exact .inl rfl | exact .inr rfl) h)
    (mss_one (ms_if (mt_cmp od_isnot (me_var 8 (pv 8)) me_non)
    (mss_one (ms_ret (me_var 8 (pv 8))))
    mss_nil))) (fun h1 h2 h3 => ps_for po rfl h1 h2 h3)))
    mss_nil)))) (fun h1 h2 h3 => ps_for po rfl h1 h2 h3))
    (mss_one (ms_ret me_non)))
/-! BodyCheck.check: 0 self, 1 rows, 2 path, 3 found -/
def b_BodyCheck_check (K : PySem.W.Frag) (W : XW) : SM :=
  (mSeq (mIf (mNot (mTru (mCB vIsi (mCons (mVar 1) (mCons (mC (.ty "tuple")) mNil)))))
    mNo
    mNx) (mSeq (mAsg (mMeth (He.ga K "BodyCheck") "first_wrong" (sp_BodyCheck_first_wrong K 6) W (mVar 0) (mCons (mVar 1) (mCons (mVar 2) (mCons (mC (.int 1)) mNil)))) (gNm 3)) (mSeq (mIf (mB (mOp vIsNot (mVar 3) (mC .non)))
    mNo
    mNx) (mIf (mB (mOp vGt (mCall (sp_count_rows K 6) W (mCons (mVar 1) mNil)) (mC (.int 16))))
    mNo
    mNx))))
theorem sc_BodyCheck_check : FnScope ["self", "rows", "path", "found"] ["self", "rows", "path"] (defScope st_BodyCheck_check) := ⟨rfl, rfl, rfl, by decide +kernel, rfl, by decide +kernel, by decide +kernel⟩
def sp_BodyCheck_check (K : PySem.W.Frag) : SpD := spB 3 1 (b_BodyCheck_check K)
theorem ok_BodyCheck_check (T : Tz fac fns sups PG_.main.file exns K mg) : Fd PG_ w K mg base 16 (He.ma K (He.ga K "BodyCheck") "check") (sp_BodyCheck_check K) := by
  obtain ⟨fd, F⟩ := T.df 23 (d := df_BodyCheck_check)
  have bi : Binds K fd ["self", "rows", "path"] [] := FunD.bindsN F fun _ _ _ _ _ _ us hl => match us, hl with | [_, _, _], _ => rfl
  refine ok_def (k := 15) F sc_BodyCheck_check bi rfl rfl fun cdv A outer s H E hr X eX W tk po => ?_
  subst eX
  unfold b_BodyCheck_check
  exact (mss_cons (ms_if (mt_not (mt_tru (me_callB cd_isi (ma_cons (me_var 1 (pv 1)) (ma_cons (me_ty (T.free 14) boot_tuple) ma_nil)) fun h1 h2 => pe_callB h1 rfl (T.free 15) boot_isinstance h2)))
    (mss_one ms_no)
    mss_nil)
    (mss_cons (ms_set (i := 3) (me_mt (me_var 0 (pv 0)) (T.cls 27) (T.meth 31) (ok_BodyCheck_first_wrong T 6) (hr.mono (by omega)) tk (ma_cons (me_var 1 (pv 1)) (ma_cons (me_var 2 (pv 2)) (ma_cons me_int ma_nil)))) fun h => ps_set sc_BodyCheck_check.nd rfl (by first | exact .inl rfl | exact .inr rfl) h)
    (mss_cons (ms_if (mt_cmp od_isnot (me_var 3 (pv 3)) me_non)
    (mss_one ms_no)
    mss_nil)
    (mss_one (ms_if (mt_cmp od_gt (me_fn (ok_count_rows T 6) (hr.mono (by omega)) tk (T.glo 25) (ma_cons (me_var 1 (pv 1)) ma_nil)) (me_gint (T.int 32)))
    (mss_one ms_no)
    mss_nil)))))
/-! Program.__init__: 0 self, 1 words, 2 sources, 3 derived, 4 effects, 5 taken, 6 name, 7 pair, 8 readable, 9 index -/
def b_ProgramU_initU (K : PySem.W.Frag) (W : XW) : SM :=
  (mSeq (mIf (mNot (mTru (mCall (sp_are_names K) W (mCons (mVar 1) (mCons (mC (.int 2)) (mCons (mC (.int 4)) mNil))))))
    mNo
    mNx) (mSeq (mIf (mNot (mTru (mCall (sp_are_names K) W (mCons (mVar 2) (mCons (mC (.int 1)) (mCons (mC (.int 4)) mNil))))))
    mNo
    mNx) (mSeq (mAsg (mDc (iSeq (mVar 2)) (gNm 6) mYes (mVar 6) (mC (.bl true)) [6]) (gNm 5)) (mSeq (mIf (mNot (mTru (mCall (sp_are_pairs K) W (mCons (mVar 3) (mCons (mC (.int 6)) (mCons (mVar 5) mNil))))))
    mNo
    mNx) (mSeq (mFor (iSeq (mVar 3)) (gNm 7)
    (mAsg (mC (.bl true)) (gIx (mVar 5) (mOp vIx (mVar 7) (mC (.int 0)))))) (mSeq (mIf (mNot (mTru (mCall (sp_are_pairs K) W (mCons (mVar 4) (mCons (mC (.int 4)) (mCons (mVar 5) mNil))))))
    mNo
    mNx) (mSeq (mAsg (mCB vList (mCons (mVar 2) mNil)) (gNm 8)) (mSeq (mFor (iEnumD (mCons (mVar 3) mNil)) (gT 2 (gC (gNm 9) (gC (gNm 7) gN)))
    (mSeq (mDrop (mMeth (He.ga K "BodyCheck") "check" (sp_BodyCheck_check K) W (mMake (He.ga K "BodyCheck") (sp_BodyCheckU_initU K) W (mCons (mC (.str "derived")) (mCons (mVar 1) (mCons (mVar 2) (mCons (mCB vList (mCons (mVar 8) mNil)) mNil))))) (mCons (mOp vIx (mVar 7) (mC (.int 1))) (mCons (mTup (mCons (mC (.str "derived")) (mCons (mVar 9) mNil))) mNil)))) (mDrop (mMet okL rApp (mVar 8) (mCons (mOp vIx (mVar 7) (mC (.int 0))) mNil))))) (mSeq (mFor (iEnumD (mCons (mVar 4) mNil)) (gT 2 (gC (gNm 9) (gC (gNm 7) gN)))
    (mDrop (mMeth (He.ga K "BodyCheck") "check" (sp_BodyCheck_check K) W (mMake (He.ga K "BodyCheck") (sp_BodyCheckU_initU K) W (mCons (mC (.str "effects")) (mCons (mVar 1) (mCons (mVar 2) (mCons (mVar 8) mNil))))) (mCons (mOp vIx (mVar 7) (mC (.int 1))) (mCons (mTup (mCons (mC (.str "effects")) (mCons (mVar 9) mNil))) mNil))))) (mSeq (mSetF K (mVar 0) (mVar 1) "words") (mSeq (mSetF K (mVar 0) (mVar 2) "sources") (mSeq (mSetF K (mVar 0) (mVar 3) "derived") (mSetF K (mVar 0) (mVar 4) "effects")))))))))))))
theorem sc_ProgramU_initU : FnScope ["self", "words", "sources", "derived", "effects", "taken", "name", "pair", "readable", "index"] ["self", "words", "sources", "derived", "effects"] (defScope st_ProgramU_initU) := ⟨rfl, rfl, rfl, by decide +kernel, rfl, by decide +kernel, by decide +kernel⟩
def sp_ProgramU_initU (K : PySem.W.Frag) : SpD := spB 5 5 (b_ProgramU_initU K)
theorem ok_ProgramU_initU (T : Tz fac fns sups PG_.main.file exns K mg) : Fd PG_ w K mg base 18 (He.ma K (He.ga K "Program") "__init__") (sp_ProgramU_initU K) := by
  obtain ⟨fd, F⟩ := T.df 24 (d := df_ProgramU_initU)
  have bi : Binds K fd ["self", "words", "sources", "derived", "effects"] [] := FunD.bindsN F fun _ _ _ _ _ _ us hl => match us, hl with | [_, _, _, _, _], _ => rfl
  refine ok_def (k := 17) F sc_ProgramU_initU bi rfl rfl fun cdv A outer s H E hr X eX W tk po => ?_
  subst eX
  unfold b_ProgramU_initU
  exact (mss_cons (ms_if (mt_not (mt_tru (me_fn (ok_are_names T) (hr.mono (by omega)) tk (T.glo 33) (ma_cons (me_var 1 (pv 1)) (ma_cons me_int (ma_cons me_int ma_nil))))))
    (mss_one ms_no)
    mss_nil)
    (mss_cons (ms_if (mt_not (mt_tru (me_fn (ok_are_names T) (hr.mono (by omega)) tk (T.glo 33) (ma_cons (me_var 2 (pv 2)) (ma_cons me_int (ma_cons me_int ma_nil))))))
    (mss_one ms_no)
    mss_nil)
    (mss_cons (ms_setDc (i := 5) rfl sc_ProgramU_initU.nd (mi_seq (me_var 2 (pv 2))) (own := [("name", 6)]) (blkOk_by (by kernel_rfl)) bt_nm (fun _ _ _ _ _ => pg_name sc_ProgramU_initU.nd rfl (by first | exact .inl rfl | exact .inr rfl)) (fun _ _ _ _ _ => mts_nil) (fun _ _ _ _ _ => (me_var 6 (pv 6))) (fun _ _ _ _ _ => me_bl))
    (mss_cons (ms_if (mt_not (mt_tru (me_fn (ok_are_pairs T) (hr.mono (by omega)) tk (T.glo 34) (ma_cons (me_var 3 (pv 3)) (ma_cons me_int (ma_cons (me_var 5 (pv 5)) ma_nil))))))
    (mss_one ms_no)
    mss_nil)
    (mss_cons (ms_for po rfl (mi_seq (me_var 3 (pv 3))) (mg_name (pg_name sc_ProgramU_initU.nd rfl (by first | exact .inl rfl | exact .inr rfl)))
    (mss_one (ms_asg me_bl (mg_sub (hu1 hr) (me_var 5 (pv 5)) (me_ix (hu1 hr) (me_var 7 (pv 7)) me_int)))) (fun h1 h2 h3 => ps_for po rfl h1 h2 h3))
    (mss_cons (ms_if (mt_not (mt_tru (me_fn (ok_are_pairs T) (hr.mono (by omega)) tk (T.glo 34) (ma_cons (me_var 4 (pv 4)) (ma_cons me_int (ma_cons (me_var 5 (pv 5)) ma_nil))))))
    (mss_one ms_no)
    mss_nil)
    (mss_cons (ms_set (i := 8) (me_callT cd_list (ma_cons (me_var 2 (pv 2)) ma_nil) fun h1 h2 => pe_callTy h1 rfl (T.free 35) boot_list h2) fun h => ps_set sc_ProgramU_initU.nd rfl (by first | exact .inl rfl | exact .inr rfl) h)
    (mss_cons (ms_for po rfl (mi_enum (ma_cons (me_var 3 (pv 3)) ma_nil) (T.free 9)) (mg_tup rfl (mgs_cons (mg_name (pg_name sc_ProgramU_initU.nd rfl (by first | exact .inl rfl | exact .inr rfl))) (mgs_cons (mg_name (pg_name sc_ProgramU_initU.nd rfl (by first | exact .inl rfl | exact .inr rfl))) mgs_nil)))
    (mss_cons (ms_expr (me_mt (me_make (T.mkr 36) (ok_BodyCheckU_initU T) (hr.mono (by omega)) tk (T.glo 37) (ma_cons me_str (ma_cons (me_var 1 (pv 1)) (ma_cons (me_var 2 (pv 2)) (ma_cons (me_callT cd_list (ma_cons (me_var 8 (pv 8)) ma_nil) fun h1 h2 => pe_callTy h1 rfl (T.free 35) boot_list h2) ma_nil))))) (T.cls 27) (T.meth 38) (ok_BodyCheck_check T) (hr.mono (by omega)) tk (ma_cons (me_ix (hu1 hr) (me_var 7 (pv 7)) me_int) (ma_cons (me_tup (ma_cons me_str (ma_cons (me_var 9 (pv 9)) ma_nil))) ma_nil))))
    (mss_one (ms_expr (me_append (me_var 8 (pv 8)) (ma_cons (me_ix (hu1 hr) (me_var 7 (pv 7)) me_int) ma_nil))))) (fun h1 h2 h3 => ps_for po rfl h1 h2 h3))
    (mss_cons (ms_for po rfl (mi_enum (ma_cons (me_var 4 (pv 4)) ma_nil) (T.free 9)) (mg_tup rfl (mgs_cons (mg_name (pg_name sc_ProgramU_initU.nd rfl (by first | exact .inl rfl | exact .inr rfl))) (mgs_cons (mg_name (pg_name sc_ProgramU_initU.nd rfl (by first | exact .inl rfl | exact .inr rfl))) mgs_nil)))
    (mss_one (ms_expr (me_mt (me_make (T.mkr 36) (ok_BodyCheckU_initU T) (hr.mono (by omega)) tk (T.glo 37) (ma_cons me_str (ma_cons (me_var 1 (pv 1)) (ma_cons (me_var 2 (pv 2)) (ma_cons (me_var 8 (pv 8)) ma_nil))))) (T.cls 27) (T.meth 38) (ok_BodyCheck_check T) (hr.mono (by omega)) tk (ma_cons (me_ix (hu1 hr) (me_var 7 (pv 7)) me_int) (ma_cons (me_tup (ma_cons me_str (ma_cons (me_var 9 (pv 9)) ma_nil))) ma_nil))))) (fun h1 h2 h3 => ps_for po rfl h1 h2 h3))
    (mss_cons (ms_fld (me_var 0 (pv 0)) (me_var 1 (pv 1)))
    (mss_cons (ms_fld (me_var 0 (pv 0)) (me_var 2 (pv 2)))
    (mss_cons (ms_fld (me_var 0 (pv 0)) (me_var 3 (pv 3)))
    (mss_one (ms_fld (me_var 0 (pv 0)) (me_var 4 (pv 4))))))))))))))))
/-! Program.body: 0 self, 1 name, 2 pair -/
def b_Program_body (K : PySem.W.Frag) (W : XW) : SM :=
  (mSeq (mFor (iSeq (mOp vAdd (mFld K (mVar 0) "derived") (mFld K (mVar 0) "effects"))) (gNm 2)
    (mIf (mB (mOp vEq (mOp vIx (mVar 2) (mC (.int 0))) (mVar 1)))
    (mRet (mOp vIx (mVar 2) (mC (.int 1))))
    mNx)) (mRaise (He.ga K "UnknownCell") "name" W (mCons (mVar 1) mNil)))
theorem sc_Program_body : FnScope ["self", "name", "pair"] ["self", "name"] (defScope st_Program_body) := ⟨rfl, rfl, rfl, by decide +kernel, rfl, by decide +kernel, by decide +kernel⟩
def sp_Program_body (K : PySem.W.Frag) : SpD := spB 2 1 (b_Program_body K)
theorem ok_Program_body (T : Tz fac fns sups PG_.main.file exns K mg) : Fd PG_ w K mg base 4 (He.ma K (He.ga K "Program") "body") (sp_Program_body K) := by
  obtain ⟨fd, F⟩ := T.df 25 (d := df_Program_body)
  have bi : Binds K fd ["self", "name"] [] := FunD.bindsN F fun _ _ _ _ _ _ us hl => match us, hl with | [_, _], _ => rfl
  refine ok_def (k := 3) F sc_Program_body bi rfl rfl fun cdv A outer s H E hr X eX W tk po => ?_
  subst eX
  unfold b_Program_body
  exact (mss_cons (ms_for po rfl (mi_seq (me_op od_add (me_fld (me_var 0 (pv 0))) (me_fld (me_var 0 (pv 0))))) (mg_name (pg_name sc_Program_body.nd rfl (by first | exact .inl rfl | exact .inr rfl)))
    (mss_one (ms_if (mt_cmp (od_eq (hu64 hr)) (me_ix (hu1 hr) (me_var 2 (pv 2)) me_int) (me_var 1 (pv 1)))
    (mss_one (ms_ret (me_ix (hu1 hr) (me_var 2 (pv 2)) me_int)))
    mss_nil)) (fun h1 h2 h3 => ps_for po rfl h1 h2 h3))
    (mss_one (ms_raise rfl tk (hr.mono (by omega)) (ex_UnknownCell T) (ma_cons (me_var 1 (pv 1)) ma_nil))))
/-! Program.body_path: 0 self, 1 name, 2 index, 3 pair -/
def b_Program_body_path (K : PySem.W.Frag) (W : XW) : SM :=
  (mSeq (mFor (iEnumD (mCons (mFld K (mVar 0) "derived") mNil)) (gT 2 (gC (gNm 2) (gC (gNm 3) gN)))
    (mIf (mB (mOp vEq (mOp vIx (mVar 3) (mC (.int 0))) (mVar 1)))
    (mRet (mTup (mCons (mC (.str "derived")) (mCons (mVar 2) mNil))))
    mNx)) (mSeq (mFor (iEnumD (mCons (mFld K (mVar 0) "effects") mNil)) (gT 2 (gC (gNm 2) (gC (gNm 3) gN)))
    (mIf (mB (mOp vEq (mOp vIx (mVar 3) (mC (.int 0))) (mVar 1)))
    (mRet (mTup (mCons (mC (.str "effects")) (mCons (mVar 2) mNil))))
    mNx)) (mRaise (He.ga K "UnknownCell") "name" W (mCons (mVar 1) mNil))))
theorem sc_Program_body_path : FnScope ["self", "name", "index", "pair"] ["self", "name"] (defScope st_Program_body_path) := ⟨rfl, rfl, rfl, by decide +kernel, rfl, by decide +kernel, by decide +kernel⟩
def sp_Program_body_path (K : PySem.W.Frag) : SpD := spB 2 2 (b_Program_body_path K)
theorem ok_Program_body_path (T : Tz fac fns sups PG_.main.file exns K mg) : Fd PG_ w K mg base 4 (He.ma K (He.ga K "Program") "body_path") (sp_Program_body_path K) := by
  obtain ⟨fd, F⟩ := T.df 26 (d := df_Program_body_path)
  have bi : Binds K fd ["self", "name"] [] := FunD.bindsN F fun _ _ _ _ _ _ us hl => match us, hl with | [_, _], _ => rfl
  refine ok_def (k := 3) F sc_Program_body_path bi rfl rfl fun cdv A outer s H E hr X eX W tk po => ?_
  subst eX
  unfold b_Program_body_path
  exact (mss_cons (ms_for po rfl (mi_enum (ma_cons (me_fld (me_var 0 (pv 0))) ma_nil) (T.free 9)) (mg_tup rfl (mgs_cons (mg_name (pg_name sc_Program_body_path.nd rfl (by first | exact .inl rfl | exact .inr rfl))) (mgs_cons (mg_name (pg_name sc_Program_body_path.nd rfl (by first | exact .inl rfl | exact .inr rfl))) mgs_nil)))
    (mss_one (ms_if (mt_cmp (od_eq (hu64 hr)) (me_ix (hu1 hr) (me_var 3 (pv 3)) me_int) (me_var 1 (pv 1)))
    (mss_one (ms_ret (me_tup (ma_cons me_str (ma_cons (me_var 2 (pv 2)) ma_nil)))))
    mss_nil)) (fun h1 h2 h3 => ps_for po rfl h1 h2 h3))
    (mss_cons (ms_for po rfl (mi_enum (ma_cons (me_fld (me_var 0 (pv 0))) ma_nil) (T.free 9)) (mg_tup rfl (mgs_cons (mg_name (pg_name sc_Program_body_path.nd rfl (by first | exact .inl rfl | exact .inr rfl))) (mgs_cons (mg_name (pg_name sc_Program_body_path.nd rfl (by first | exact .inl rfl | exact .inr rfl))) mgs_nil)))
    (mss_one (ms_if (mt_cmp (od_eq (hu64 hr)) (me_ix (hu1 hr) (me_var 3 (pv 3)) me_int) (me_var 1 (pv 1)))
    (mss_one (ms_ret (me_tup (ma_cons me_str (ma_cons (me_var 2 (pv 2)) ma_nil)))))
    mss_nil)) (fun h1 h2 h3 => ps_for po rfl h1 h2 h3))
    (mss_one (ms_raise rfl tk (hr.mono (by omega)) (ex_UnknownCell T) (ma_cons (me_var 1 (pv 1)) ma_nil)))))
/-! true_run: 0 program, 1 words, 2 name, 3 table, 4 rows, 5 path, 6 run, 7 word -/
def b_true_run (K : PySem.W.Frag) (W : XW) : SM :=
  (mSeq (mAsg (mCall (sp_true_table K) W (mCons (mVar 0) (mCons (mVar 1) mNil))) (gNm 3)) (mSeq (mAsg (mMeth (He.ga K "Program") "body" (sp_Program_body K) W (mVar 0) (mCons (mVar 2) mNil)) (gNm 4)) (mSeq (mAsg (mMeth (He.ga K "Program") "body_path" (sp_Program_body_path K) W (mVar 0) (mCons (mVar 2) mNil)) (gNm 5)) (mSeq (mAsg (mMake (He.ga K "TrueRun") (sp_TrueRunU_initU K) W (mCons (mVar 2) (mCons (mOp vIx (mFld K (mVar 0) "words") (mC (.int 0))) (mCons (mVar 3) mNil)))) (gNm 6)) (mSeq (mDrop (mMeth (He.ga K "TrueRun") "do_rows" (sp_Run_do_rows K 6) W (mVar 6) (mCons (mVar 4) (mCons (mVar 5) mNil)))) (mSeq (mAsg (mC .non) (gNm 7)) (mSeq (mIf (mB (mOp vEq (mOp vIx (mVar 5) (mC (.int 0))) (mC (.str "derived"))))
    (mAsg (mMeth (He.ga K "TrueRun") "held_word" (sp_Run_held_word K) W (mVar 6) mNil) (gNm 7))
    mNx) (mRet (mDisp [((mC (.str "notes")), (mCB vTuple (mCons (mFld K (mVar 6) "notes") mNil))), ((mC (.str "peeks")), (mCB vTuple (mCons (mFld K (mVar 6) "peeks") mNil))), ((mC (.str "says")), (mCB vTuple (mCons (mFld K (mVar 6) "says") mNil))), ((mC (.str "writes")), (mCB vTuple (mCons (mFld K (mVar 6) "written") mNil))), ((mC (.str "word")), (mVar 7))])))))))))
theorem sc_true_run : FnScope ["program", "words", "name", "table", "rows", "path", "run", "word"] ["program", "words", "name"] (defScope st_true_run) := ⟨rfl, rfl, rfl, by decide +kernel, rfl, by decide +kernel, by decide +kernel⟩
def sp_true_run (K : PySem.W.Frag) : SpD := spB 3 5 (b_true_run K)
theorem ok_true_run (T : Tz fac fns sups PG_.main.file exns K mg) : Fd PG_ w K mg base 18 (He.ga K "true_run") (sp_true_run K) := by
  obtain ⟨fd, F⟩ := T.df 27 (d := df_true_run)
  have bi : Binds K fd ["program", "words", "name"] [] := FunD.bindsN F fun _ _ _ _ _ _ us hl => match us, hl with | [_, _, _], _ => rfl
  refine ok_def (k := 17) F sc_true_run bi rfl rfl fun cdv A outer s H E hr X eX W tk po => ?_
  subst eX
  unfold b_true_run
  exact (mss_cons (ms_set (i := 3) (me_fn (ok_true_table T) (hr.mono (by omega)) tk (T.glo 39) (ma_cons (me_var 0 (pv 0)) (ma_cons (me_var 1 (pv 1)) ma_nil))) fun h => ps_set sc_true_run.nd rfl (by first | exact .inl rfl | exact .inr rfl) h)
    (mss_cons (ms_set (i := 4) (me_mt (me_var 0 (pv 0)) (T.cls 40) (T.meth 41) (ok_Program_body T) (hr.mono (by omega)) tk (ma_cons (me_var 2 (pv 2)) ma_nil)) fun h => ps_set sc_true_run.nd rfl (by first | exact .inl rfl | exact .inr rfl) h)
    (mss_cons (ms_set (i := 5) (me_mt (me_var 0 (pv 0)) (T.cls 40) (T.meth 42) (ok_Program_body_path T) (hr.mono (by omega)) tk (ma_cons (me_var 2 (pv 2)) ma_nil)) fun h => ps_set sc_true_run.nd rfl (by first | exact .inl rfl | exact .inr rfl) h)
    (mss_cons (ms_set (i := 6) (me_make (T.mkr 19) (ok_TrueRunU_initU T) (hr.mono (by omega)) tk (T.glo 20) (ma_cons (me_var 2 (pv 2)) (ma_cons (me_ix (hu1 hr) (me_fld (me_var 0 (pv 0))) me_int) (ma_cons (me_var 3 (pv 3)) ma_nil)))) fun h => ps_set sc_true_run.nd rfl (by first | exact .inl rfl | exact .inr rfl) h)
    (mss_cons (ms_expr (me_mt (me_var 6 (pv 6)) (T.cls 2) (T.meth 11) (ok_Run_do_rows T 6) (hr.mono (by omega)) tk (ma_cons (me_var 4 (pv 4)) (ma_cons (me_var 5 (pv 5)) ma_nil))))
    (mss_cons (ms_set (i := 7) me_non fun h => ps_set sc_true_run.nd rfl (by first | exact .inl rfl | exact .inr rfl) h)
    (mss_cons (ms_if (mt_cmp (od_eq (hu64 hr)) (me_ix (hu1 hr) (me_var 5 (pv 5)) me_int) me_str)
    (mss_one (ms_set (i := 7) (me_mt0 (me_var 6 (pv 6)) (T.cls 2) (T.meth 21) (ok_Run_held_word T) (hr.mono (by omega)) tk) fun h => ps_set sc_true_run.nd rfl (by first | exact .inl rfl | exact .inr rfl) h))
    mss_nil)
    (mss_one (ms_ret (me_disp (mps_cons me_str (me_callT cd_tuple (ma_cons (me_fld (me_var 6 (pv 6))) ma_nil) fun h1 h2 => pe_callTy h1 rfl (T.free 14) boot_tuple h2) (mps_cons me_str (me_callT cd_tuple (ma_cons (me_fld (me_var 6 (pv 6))) ma_nil) fun h1 h2 => pe_callTy h1 rfl (T.free 14) boot_tuple h2) (mps_cons me_str (me_callT cd_tuple (ma_cons (me_fld (me_var 6 (pv 6))) ma_nil) fun h1 h2 => pe_callTy h1 rfl (T.free 14) boot_tuple h2) (mps_cons me_str (me_callT cd_tuple (ma_cons (me_fld (me_var 6 (pv 6))) ma_nil) fun h1 h2 => pe_callTy h1 rfl (T.free 14) boot_tuple h2) (mps_cons me_str (me_var 7 (pv 7)) mps_nil)))))))))))))))
/-! telling: 0 program, 1 words, 2 name, 3 found -/
def b_telling (K : PySem.W.Frag) (W : XW) : SM :=
  (mSeq (mAsg (mCall (sp_true_run K) W (mCons (mVar 0) (mCons (mVar 1) (mCons (mVar 2) mNil)))) (gNm 3)) (mRet (mTup (mCons (mOp vIx (mVar 3) (mC (.str "word"))) (mCons (mOp vIx (mVar 3) (mC (.str "says"))) (mCons (mOp vIx (mVar 3) (mC (.str "writes"))) mNil))))))
theorem sc_telling : FnScope ["program", "words", "name", "found"] ["program", "words", "name"] (defScope st_telling) := ⟨rfl, rfl, rfl, by decide +kernel, rfl, by decide +kernel, by decide +kernel⟩
def sp_telling (K : PySem.W.Frag) : SpD := spB 3 1 (b_telling K)
theorem ok_telling (T : Tz fac fns sups PG_.main.file exns K mg) : Fd PG_ w K mg base 20 (He.ga K "telling") (sp_telling K) := by
  obtain ⟨fd, F⟩ := T.df 28 (d := df_telling)
  have bi : Binds K fd ["program", "words", "name"] [] := FunD.bindsN F fun _ _ _ _ _ _ us hl => match us, hl with | [_, _, _], _ => rfl
  refine ok_def (k := 19) F sc_telling bi rfl rfl fun cdv A outer s H E hr X eX W tk po => ?_
  subst eX
  unfold b_telling
  exact (mss_cons (ms_set (i := 3) (me_fn (ok_true_run T) (hr.mono (by omega)) tk (T.glo 43) (ma_cons (me_var 0 (pv 0)) (ma_cons (me_var 1 (pv 1)) (ma_cons (me_var 2 (pv 2)) ma_nil)))) fun h => ps_set sc_telling.nd rfl (by first | exact .inl rfl | exact .inr rfl) h)
    (mss_one (ms_ret (me_tup (ma_cons (me_ix (hu1 hr) (me_var 3 (pv 3)) me_str) (ma_cons (me_ix (hu1 hr) (me_var 3 (pv 3)) me_str) (ma_cons (me_ix (hu1 hr) (me_var 3 (pv 3)) me_str) ma_nil)))))))
/-! word_rows: 0 program, 1 rows, 2 place, 3 row, 4 word -/
def b_word_rows (K : PySem.W.Frag) (W : XW) : SM :=
  (mSeq (mAsg (mLst (mCons (mTup mNil) mNil)) (gNm 1)) (mSeq (mFor (iRange1 (mCons (mCB vLen (mCons (mFld K (mVar 0) "sources") mNil)) mNil)) (gNm 2)
    (mAsg (mLc2 (iSeq (mVar 1)) (gNm 3) mYes (iSeq (mFld K (mVar 0) "words")) (gNm 4) mYes (mOp vAdd (mVar 3) (mTup (mCons (mVar 4) mNil))) [3, 4] [4]) (gNm 1))) (mRet (mVar 1))))
theorem sc_word_rows : FnScope ["program", "rows", "place", "row", "word"] ["program"] (defScope st_word_rows) := ⟨rfl, rfl, rfl, by decide +kernel, rfl, by decide +kernel, by decide +kernel⟩
def sp_word_rows (K : PySem.W.Frag) : SpD := spB 1 4 (b_word_rows K)
theorem ok_word_rows (T : Tz fac fns sups PG_.main.file exns K mg) : Fd PG_ w K mg base 2 (He.ga K "word_rows") (sp_word_rows K) := by
  obtain ⟨fd, F⟩ := T.df 29 (d := df_word_rows)
  have bi : Binds K fd ["program"] [] := FunD.bindsN F fun _ _ _ _ _ _ us hl => match us, hl with | [_], _ => rfl
  refine ok_def (k := 1) F sc_word_rows bi rfl rfl fun cdv A outer s H E hr X eX W tk po => ?_
  subst eX
  unfold b_word_rows
  exact (mss_cons (ms_set (i := 1) (me_lst (ma_cons (me_tup ma_nil) ma_nil)) fun h => ps_set sc_word_rows.nd rfl (by first | exact .inl rfl | exact .inr rfl) h)
    (mss_cons (ms_for po rfl (mi_range1 (ma_cons (me_callB cd_len (ma_cons (me_fld (me_var 0 (pv 0))) ma_nil) fun h1 h2 => pe_callB h1 rfl (T.free 13) boot_len h2) ma_nil) fun h => pi_range1 rfl (T.free 44) h) (mg_name (pg_name sc_word_rows.nd rfl (by first | exact .inl rfl | exact .inr rfl)))
    (mss_one (ms_setLc2 (i := 1) rfl sc_word_rows.nd (mi_seq (me_var 1 (pv 1))) (own := [("row", 3), ("word", 4)]) (vs1 := [4]) (blkOk_by (by kernel_rfl)) bt_nm bt_nm (fun _ _ _ _ _ => pg_name sc_word_rows.nd rfl (by first | exact .inl rfl | exact .inr rfl)) (fun _ _ _ _ _ => mts_nil) (fun _ _ _ _ _ => (mi_seq (me_fld (me_var 0 (pv 0))))) (fun _ _ _ _ _ => pg_name sc_word_rows.nd rfl (by first | exact .inl rfl | exact .inr rfl)) (fun _ _ _ _ _ => mts_nil) (fun _ _ _ _ _ => (me_op od_add (me_var 3 (pv 3)) (me_tup (ma_cons (me_var 4 (pv 4)) ma_nil)))))) (fun h1 h2 h3 => ps_for po rfl h1 h2 h3))
    (mss_one (ms_ret (me_var 1 (pv 1))))))
/-! places_of: 0 program, 1 value, 2 places, 3 source, 4 first, 5 second -/
def b_places_of (K : PySem.W.Frag) (W : XW) : SM :=
  (mSeq (mIf (mNot (mTru (mCB vIsi (mCons (mVar 1) (mCons (mC (.ty "tuple")) mNil)))))
    (mRet (mC .non))
    mNx) (mSeq (mAsg (mLst mNil) (gNm 2)) (mSeq (mFor (iSeq (mVar 1)) (gNm 3)
    (mSeq (mIf (mOr (mNot (mTru (mCB vIsi (mCons (mVar 3) (mCons (mC (.ty "str")) mNil))))) (mB (mOp vNotIn (mVar 3) (mFld K (mVar 0) "sources"))))
    (mRet (mC .non))
    mNx) (mDrop (mMet okL rApp (mVar 2) (mCons (mMet okT rIdx (mFld K (mVar 0) "sources") (mCons (mVar 3) mNil)) mNil))))) (mSeq (mFor (iZipL (mCons (mVar 2) (mCons (mSl (mVar 2) (mP (mC (.int 1))) mNoP) mNil))) (gT 2 (gC (gNm 4) (gC (gNm 5) gN)))
    (mIf (mB (mOp vGe (mVar 4) (mVar 5)))
    (mRet (mC .non))
    mNx)) (mRet (mCB vTuple (mCons (mVar 2) mNil)))))))
theorem sc_places_of : FnScope ["program", "value", "places", "source", "first", "second"] ["program", "value"] (defScope st_places_of) := ⟨rfl, rfl, rfl, by decide +kernel, rfl, by decide +kernel, by decide +kernel⟩
def sp_places_of (K : PySem.W.Frag) : SpD := spB 2 4 (b_places_of K)
theorem ok_places_of (T : Tz fac fns sups PG_.main.file exns K mg) : Fd PG_ w K mg base 2 (He.ga K "places_of") (sp_places_of K) := by
  obtain ⟨fd, F⟩ := T.df 30 (d := df_places_of)
  have bi : Binds K fd ["program", "value"] [] := FunD.bindsN F fun _ _ _ _ _ _ us hl => match us, hl with | [_, _], _ => rfl
  refine ok_def (k := 1) F sc_places_of bi rfl rfl fun cdv A outer s H E hr X eX W tk po => ?_
  subst eX
  unfold b_places_of
  exact (mss_cons (ms_if (mt_not (mt_tru (me_callB cd_isi (ma_cons (me_var 1 (pv 1)) (ma_cons (me_ty (T.free 14) boot_tuple) ma_nil)) fun h1 h2 => pe_callB h1 rfl (T.free 15) boot_isinstance h2)))
    (mss_one (ms_ret me_non))
    mss_nil)
    (mss_cons (ms_set (i := 2) (me_lst ma_nil) fun h => ps_set sc_places_of.nd rfl (by first | exact .inl rfl | exact .inr rfl) h)
    (mss_cons (ms_for po rfl (mi_seq (me_var 1 (pv 1))) (mg_name (pg_name sc_places_of.nd rfl (by first | exact .inl rfl | exact .inr rfl)))
    (mss_cons (ms_if (MW.mt (mw_or (mt_not (mt_tru (me_callB cd_isi (ma_cons (me_var 3 (pv 3)) (ma_cons (me_ty (T.free 16) boot_str) ma_nil)) fun h1 h2 => pe_callB h1 rfl (T.free 15) boot_isinstance h2))) (mw_or1 (mt_cmp (od_notin (hu65 hr)) (me_var 3 (pv 3)) (me_fld (me_var 0 (pv 0)))))))
    (mss_one (ms_ret me_non))
    mss_nil)
    (mss_one (ms_expr (me_append (me_var 2 (pv 2)) (ma_cons (me_index (me_fld (me_var 0 (pv 0))) (ma_cons (me_var 3 (pv 3)) ma_nil)) ma_nil))))) (fun h1 h2 h3 => ps_for po rfl h1 h2 h3))
    (mss_cons (ms_for po rfl (mi_zipL (ma_cons (me_var 2 (pv 2)) (ma_cons (me_sl (me_var 2 (pv 2)) (mo_some me_int) mo_none) ma_nil)) (T.free 18)) (mg_tup rfl (mgs_cons (mg_name (pg_name sc_places_of.nd rfl (by first | exact .inl rfl | exact .inr rfl))) (mgs_cons (mg_name (pg_name sc_places_of.nd rfl (by first | exact .inl rfl | exact .inr rfl))) mgs_nil)))
    (mss_one (ms_if (mt_cmp od_ge (me_var 4 (pv 4)) (me_var 5 (pv 5)))
    (mss_one (ms_ret me_non))
    mss_nil)) (fun h1 h2 h3 => ps_for po rfl h1 h2 h3))
    (mss_one (ms_ret (me_callT cd_tuple (ma_cons (me_var 2 (pv 2)) ma_nil) fun h1 h2 => pe_callTy h1 rfl (T.free 14) boot_tuple h2)))))))
/-! agree: 0 words, 1 others, 2 places, 3 place -/
def b_agree (K : PySem.W.Frag) (W : XW) : SM :=
  (mRet (mCB vAll (mCons (mLc (iSeq (mVar 2)) (gNm 3) mYes (mOp vEq (mOp vIx (mVar 0) (mVar 3)) (mOp vIx (mVar 1) (mVar 3))) [3]) mNil)))
theorem sc_agree : FnScope ["words", "others", "places", "place"] ["words", "others", "places"] (defScope st_agree) := ⟨rfl, rfl, rfl, by decide +kernel, rfl, by decide +kernel, by decide +kernel⟩
def sp_agree (K : PySem.W.Frag) : SpD := spB 3 1 (b_agree K)
theorem ok_agree (T : Tz fac fns sups PG_.main.file exns K mg) : Fd PG_ w K mg base 2 (He.ga K "agree") (sp_agree K) := by
  obtain ⟨fd, F⟩ := T.df 31 (d := df_agree)
  have bi : Binds K fd ["words", "others", "places"] [] := FunD.bindsN F fun _ _ _ _ _ _ us hl => match us, hl with | [_, _, _], _ => rfl
  refine ok_def (k := 1) F sc_agree bi rfl rfl fun cdv A outer s H E hr X eX W tk po => ?_
  subst eX
  unfold b_agree
  exact (mss_one (ms_ret (me_callB (cd_all rfl) (ma_cons (me_lc rfl sc_agree.nd (mi_seq (me_var 2 (pv 2))) (own := [("place", 3)]) (blkOk_by (by kernel_rfl)) bt_nm (fun _ _ _ _ _ => pg_name sc_agree.nd rfl (by first | exact .inl rfl | exact .inr rfl)) (fun _ _ _ _ _ => mts_nil) (fun _ _ _ _ _ => (me_cmp (od_eq (hu64 hr)) (me_ix (hu1 hr) (me_var 0 (pv 0)) (me_var 3 (pv 3))) (me_ix (hu1 hr) (me_var 1 (pv 1)) (me_var 3 (pv 3)))))) ma_nil) fun h1 h2 => pe_callB h1 rfl (T.free 45) (by decide +kernel) h2)))
/-! Tellings.__init__: 0 self, 1 program, 2 words, 3 name, 4 row -/
def b_TellingsU_initU (K : PySem.W.Frag) (W : XW) : SM :=
  (mSeq (mSetF K (mVar 0) (mCall (sp_telling K) W (mCons (mVar 1) (mCons (mVar 2) (mCons (mVar 3) mNil)))) "own") (mSeq (mSetF K (mVar 0) (mVar 2) "words") (mSeq (mSetF K (mVar 0) (mFld K (mVar 1) "sources") "sources") (mSetF K (mVar 0) (mLc (iSeq (mCall (sp_word_rows K) W (mCons (mVar 1) mNil))) (gNm 4) mYes (mTup (mCons (mVar 4) (mCons (mCall (sp_telling K) WN (mCons (mVar 1) (mCons (mVar 4) (mCons (mVar 3) mNil)))) mNil))) [4]) "table"))))
theorem sc_TellingsU_initU : FnScope ["self", "program", "words", "name", "row"] ["self", "program", "words", "name"] (defScope st_TellingsU_initU) := ⟨rfl, rfl, rfl, by decide +kernel, rfl, by decide +kernel, by decide +kernel⟩
def sp_TellingsU_initU (K : PySem.W.Frag) : SpD := spB 4 1 (b_TellingsU_initU K)
theorem ok_TellingsU_initU (T : Tz fac fns sups PG_.main.file exns K mg) : Fd PG_ w K mg base 22 (He.ma K (He.ga K "Tellings") "__init__") (sp_TellingsU_initU K) := by
  obtain ⟨fd, F⟩ := T.df 32 (d := df_TellingsU_initU)
  have bi : Binds K fd ["self", "program", "words", "name"] [] := FunD.bindsN F fun _ _ _ _ _ _ us hl => match us, hl with | [_, _, _, _], _ => rfl
  refine ok_def (k := 21) F sc_TellingsU_initU bi rfl rfl fun cdv A outer s H E hr X eX W tk po => ?_
  subst eX
  unfold b_TellingsU_initU
  exact (mss_cons (ms_fld (me_var 0 (pv 0)) (me_fn (ok_telling T) (hr.mono (by omega)) tk (T.glo 46) (ma_cons (me_var 1 (pv 1)) (ma_cons (me_var 2 (pv 2)) (ma_cons (me_var 3 (pv 3)) ma_nil)))))
    (mss_cons (ms_fld (me_var 0 (pv 0)) (me_var 2 (pv 2)))
    (mss_cons (ms_fld (me_var 0 (pv 0)) (me_fld (me_var 1 (pv 1))))
    (mss_one (ms_fld (me_var 0 (pv 0)) (me_lc rfl sc_TellingsU_initU.nd (mi_seq (me_fn (ok_word_rows T) (hr.mono (by omega)) tk (T.glo 47) (ma_cons (me_var 1 (pv 1)) ma_nil))) (own := [("row", 4)]) (blkOk_by (by kernel_rfl)) bt_nm (fun _ _ _ _ _ => pg_name sc_TellingsU_initU.nd rfl (by first | exact .inl rfl | exact .inr rfl)) (fun _ _ _ _ _ => mts_nil) (fun _ _ _ _ _ => (me_tup (ma_cons (me_var 4 (pv 4)) (ma_cons (me_fn (ok_telling T) (hr.mono (by omega)) tk_none (T.glo 46) (ma_cons (me_var 1 (pv 1)) (ma_cons (me_var 4 (pv 4)) (ma_cons (me_var 3 (pv 3)) ma_nil)))) ma_nil))))))))))
/-! Tellings.told_where: 0 self, 1 places, 2 row, 3 told -/
def b_Tellings_told_where (K : PySem.W.Frag) (W : XW) : SM :=
  (mRet (mLc (iSeq (mFld K (mVar 0) "table")) (gT 2 (gC (gNm 2) (gC (gNm 3) gN))) (mTru (mCall (sp_agree K) WN (mCons (mVar 2) (mCons (mFld K (mVar 0) "words") (mCons (mVar 1) mNil))))) (mVar 3) [2, 3]))
theorem sc_Tellings_told_where : FnScope ["self", "places", "row", "told"] ["self", "places"] (defScope st_Tellings_told_where) := ⟨rfl, rfl, rfl, by decide +kernel, rfl, by decide +kernel, by decide +kernel⟩
def sp_Tellings_told_where (K : PySem.W.Frag) : SpD := spB 2 2 (b_Tellings_told_where K)
theorem ok_Tellings_told_where (T : Tz fac fns sups PG_.main.file exns K mg) : Fd PG_ w K mg base 4 (He.ma K (He.ga K "Tellings") "told_where") (sp_Tellings_told_where K) := by
  obtain ⟨fd, F⟩ := T.df 33 (d := df_Tellings_told_where)
  have bi : Binds K fd ["self", "places"] [] := FunD.bindsN F fun _ _ _ _ _ _ us hl => match us, hl with | [_, _], _ => rfl
  refine ok_def (k := 3) F sc_Tellings_told_where bi rfl rfl fun cdv A outer s H E hr X eX W tk po => ?_
  subst eX
  unfold b_Tellings_told_where
  exact (mss_one (ms_ret (me_lc rfl sc_Tellings_told_where.nd (mi_seq (me_fld (me_var 0 (pv 0)))) (own := [("row", 2), ("told", 3)]) (blkOk_by (by kernel_rfl)) (bt_tup (bts_cons (bts_cons bts_nil))) (fun _ _ _ _ _ => pg_tup rfl (pgs_cons (pg_name sc_Tellings_told_where.nd rfl (by first | exact .inl rfl | exact .inr rfl)) (pgs_cons (pg_name sc_Tellings_told_where.nd rfl (by first | exact .inl rfl | exact .inr rfl)) pgs_nil))) (fun _ _ _ _ _ => mts_one (mt_tru (me_fn (ok_agree T) (hr.mono (by omega)) tk_none (T.glo 48) (ma_cons (me_var 2 (pv 2)) (ma_cons (me_fld (me_var 0 (pv 0))) (ma_cons (me_var 1 (pv 1)) ma_nil)))))) (fun _ _ _ _ _ => (me_var 3 (pv 3))))))
/-! Tellings.is_fixed: 0 self, 1 places, 2 told -/
def b_Tellings_is_fixed (K : PySem.W.Frag) (W : XW) : SM :=
  (mRet (mCB vAll (mCons (mLc (iSeq (mMeth (He.ga K "Tellings") "told_where" (sp_Tellings_told_where K) W (mVar 0) (mCons (mVar 1) mNil))) (gNm 2) mYes (mOp vEq (mVar 2) (mFld K (mVar 0) "own")) [2]) mNil)))
theorem sc_Tellings_is_fixed : FnScope ["self", "places", "told"] ["self", "places"] (defScope st_Tellings_is_fixed) := ⟨rfl, rfl, rfl, by decide +kernel, rfl, by decide +kernel, by decide +kernel⟩
def sp_Tellings_is_fixed (K : PySem.W.Frag) : SpD := spB 2 1 (b_Tellings_is_fixed K)
theorem ok_Tellings_is_fixed (T : Tz fac fns sups PG_.main.file exns K mg) : Fd PG_ w K mg base 6 (He.ma K (He.ga K "Tellings") "is_fixed") (sp_Tellings_is_fixed K) := by
  obtain ⟨fd, F⟩ := T.df 34 (d := df_Tellings_is_fixed)
  have bi : Binds K fd ["self", "places"] [] := FunD.bindsN F fun _ _ _ _ _ _ us hl => match us, hl with | [_, _], _ => rfl
  refine ok_def (k := 5) F sc_Tellings_is_fixed bi rfl rfl fun cdv A outer s H E hr X eX W tk po => ?_
  subst eX
  unfold b_Tellings_is_fixed
  exact (mss_one (ms_ret (me_callB (cd_all rfl) (ma_cons (me_lc rfl sc_Tellings_is_fixed.nd (mi_seq (me_mt (me_var 0 (pv 0)) (T.cls 49) (T.meth 50) (ok_Tellings_told_where T) (hr.mono (by omega)) tk (ma_cons (me_var 1 (pv 1)) ma_nil))) (own := [("told", 2)]) (blkOk_by (by kernel_rfl)) bt_nm (fun _ _ _ _ _ => pg_name sc_Tellings_is_fixed.nd rfl (by first | exact .inl rfl | exact .inr rfl)) (fun _ _ _ _ _ => mts_nil) (fun _ _ _ _ _ => (me_cmp (od_eq (hu64 hr)) (me_var 2 (pv 2)) (me_fld (me_var 0 (pv 0)))))) ma_nil) fun h1 h2 => pe_callB h1 rfl (T.free 45) (by decide +kernel) h2)))
/-! Tellings.others: 0 self, 1 places, 2 place -/
def b_Tellings_others (K : PySem.W.Frag) (W : XW) : SM :=
  (mRet (mCB vTuple (mCons (mLc (iRange1 (mCons (mCB vLen (mCons (mFld K (mVar 0) "sources") mNil)) mNil)) (gNm 2) (mB (mOp vNotIn (mVar 2) (mVar 1))) (mVar 2) [2]) mNil)))
theorem sc_Tellings_others : FnScope ["self", "places", "place"] ["self", "places"] (defScope st_Tellings_others) := ⟨rfl, rfl, rfl, by decide +kernel, rfl, by decide +kernel, by decide +kernel⟩
def sp_Tellings_others (K : PySem.W.Frag) : SpD := spB 2 1 (b_Tellings_others K)
theorem ok_Tellings_others (T : Tz fac fns sups PG_.main.file exns K mg) : Fd PG_ w K mg base 2 (He.ma K (He.ga K "Tellings") "others") (sp_Tellings_others K) := by
  obtain ⟨fd, F⟩ := T.df 35 (d := df_Tellings_others)
  have bi : Binds K fd ["self", "places"] [] := FunD.bindsN F fun _ _ _ _ _ _ us hl => match us, hl with | [_, _], _ => rfl
  refine ok_def (k := 1) F sc_Tellings_others bi rfl rfl fun cdv A outer s H E hr X eX W tk po => ?_
  subst eX
  unfold b_Tellings_others
  exact (mss_one (ms_ret (me_callT cd_tuple (ma_cons (me_lc rfl sc_Tellings_others.nd (mi_range1 (ma_cons (me_callB cd_len (ma_cons (me_fld (me_var 0 (pv 0))) ma_nil) fun h1 h2 => pe_callB h1 rfl (T.free 13) boot_len h2) ma_nil) fun h => pi_range1 rfl (T.free 44) h) (own := [("place", 2)]) (blkOk_by (by kernel_rfl)) bt_nm (fun _ _ _ _ _ => pg_name sc_Tellings_others.nd rfl (by first | exact .inl rfl | exact .inr rfl)) (fun _ _ _ _ _ => mts_one (mt_cmp (od_notin (hu65 hr)) (me_var 2 (pv 2)) (me_var 1 (pv 1)))) (fun _ _ _ _ _ => (me_var 2 (pv 2)))) ma_nil) fun h1 h2 => pe_callTy h1 rfl (T.free 14) boot_tuple h2)))
/-! Tellings.moves: 0 self, 1 places -/
def b_Tellings_moves (K : PySem.W.Frag) (W : XW) : SM :=
  (mRet (mNotV (mMeth (He.ga K "Tellings") "is_fixed" (sp_Tellings_is_fixed K) W (mVar 0) (mCons (mMeth (He.ga K "Tellings") "others" (sp_Tellings_others K) W (mVar 0) (mCons (mVar 1) mNil)) mNil))))
theorem sc_Tellings_moves : FnScope ["self", "places"] ["self", "places"] (defScope st_Tellings_moves) := ⟨rfl, rfl, rfl, by decide +kernel, rfl, by decide +kernel, by decide +kernel⟩
def sp_Tellings_moves (K : PySem.W.Frag) : SpD := spB 2 0 (b_Tellings_moves K)
theorem ok_Tellings_moves (T : Tz fac fns sups PG_.main.file exns K mg) : Fd PG_ w K mg base 8 (He.ma K (He.ga K "Tellings") "moves") (sp_Tellings_moves K) := by
  obtain ⟨fd, F⟩ := T.df 36 (d := df_Tellings_moves)
  have bi : Binds K fd ["self", "places"] [] := FunD.bindsN F fun _ _ _ _ _ _ us hl => match us, hl with | [_, _], _ => rfl
  refine ok_def (k := 7) F sc_Tellings_moves bi rfl rfl fun cdv A outer s H E hr X eX W tk po => ?_
  subst eX
  unfold b_Tellings_moves
  exact (mss_one (ms_ret (me_not (me_mt (me_var 0 (pv 0)) (T.cls 49) (T.meth 52) (ok_Tellings_is_fixed T) (hr.mono (by omega)) tk (ma_cons (me_mt (me_var 0 (pv 0)) (T.cls 49) (T.meth 51) (ok_Tellings_others T) (hr.mono (by omega)) tk (ma_cons (me_var 1 (pv 1)) ma_nil)) ma_nil)))))
/-! is_reason: 0 program, 1 words, 2 name, 3 value, 4 tellings, 5 places -/
def b_is_reason (K : PySem.W.Frag) (W : XW) : SM :=
  (mSeq (mAsg (mMake (He.ga K "Tellings") (sp_TellingsU_initU K) W (mCons (mVar 0) (mCons (mVar 1) (mCons (mVar 2) mNil)))) (gNm 4)) (mSeq (mAsg (mCall (sp_places_of K) W (mCons (mVar 0) (mCons (mVar 3) mNil))) (gNm 5)) (mRet (mAndV (mOp vIsNot (mVar 5) (mC .non)) (mMeth (He.ga K "Tellings") "is_fixed" (sp_Tellings_is_fixed K) W (mVar 4) (mCons (mVar 5) mNil))))))
theorem sc_is_reason : FnScope ["program", "words", "name", "value", "tellings", "places"] ["program", "words", "name", "value"] (defScope st_is_reason) := ⟨rfl, rfl, rfl, by decide +kernel, rfl, by decide +kernel, by decide +kernel⟩
def sp_is_reason (K : PySem.W.Frag) : SpD := spB 4 2 (b_is_reason K)
theorem ok_is_reason (T : Tz fac fns sups PG_.main.file exns K mg) : Fd PG_ w K mg base 24 (He.ga K "is_reason") (sp_is_reason K) := by
  obtain ⟨fd, F⟩ := T.df 37 (d := df_is_reason)
  have bi : Binds K fd ["program", "words", "name", "value"] [] := FunD.bindsN F fun _ _ _ _ _ _ us hl => match us, hl with | [_, _, _, _], _ => rfl
  refine ok_def (k := 23) F sc_is_reason bi rfl rfl fun cdv A outer s H E hr X eX W tk po => ?_
  subst eX
  unfold b_is_reason
  exact (mss_cons (ms_set (i := 4) (me_make (T.mkr 53) (ok_TellingsU_initU T) (hr.mono (by omega)) tk (T.glo 54) (ma_cons (me_var 0 (pv 0)) (ma_cons (me_var 1 (pv 1)) (ma_cons (me_var 2 (pv 2)) ma_nil)))) fun h => ps_set sc_is_reason.nd rfl (by first | exact .inl rfl | exact .inr rfl) h)
    (mss_cons (ms_set (i := 5) (me_fn (ok_places_of T) (hr.mono (by omega)) tk (T.glo 55) (ma_cons (me_var 0 (pv 0)) (ma_cons (me_var 3 (pv 3)) ma_nil))) fun h => ps_set sc_is_reason.nd rfl (by first | exact .inl rfl | exact .inr rfl) h)
    (mss_one (ms_ret (me_and (me_cmp od_isnot (me_var 5 (pv 5)) me_non) (me_one (me_mt (me_var 4 (pv 4)) (T.cls 49) (T.meth 52) (ok_Tellings_is_fixed T) (hr.mono (by omega)) tk (ma_cons (me_var 5 (pv 5)) ma_nil))))))))
/-! is_lever: 0 program, 1 words, 2 name, 3 value, 4 tellings, 5 places -/
def b_is_lever (K : PySem.W.Frag) (W : XW) : SM :=
  (mSeq (mAsg (mMake (He.ga K "Tellings") (sp_TellingsU_initU K) W (mCons (mVar 0) (mCons (mVar 1) (mCons (mVar 2) mNil)))) (gNm 4)) (mSeq (mAsg (mCall (sp_places_of K) W (mCons (mVar 0) (mCons (mVar 3) mNil))) (gNm 5)) (mRet (mAndV (mOp vIsNot (mVar 5) (mC .non)) (mMeth (He.ga K "Tellings") "moves" (sp_Tellings_moves K) W (mVar 4) (mCons (mVar 5) mNil))))))
theorem sc_is_lever : FnScope ["program", "words", "name", "value", "tellings", "places"] ["program", "words", "name", "value"] (defScope st_is_lever) := ⟨rfl, rfl, rfl, by decide +kernel, rfl, by decide +kernel, by decide +kernel⟩
def sp_is_lever (K : PySem.W.Frag) : SpD := spB 4 2 (b_is_lever K)
theorem ok_is_lever (T : Tz fac fns sups PG_.main.file exns K mg) : Fd PG_ w K mg base 24 (He.ga K "is_lever") (sp_is_lever K) := by
  obtain ⟨fd, F⟩ := T.df 38 (d := df_is_lever)
  have bi : Binds K fd ["program", "words", "name", "value"] [] := FunD.bindsN F fun _ _ _ _ _ _ us hl => match us, hl with | [_, _, _, _], _ => rfl
  refine ok_def (k := 23) F sc_is_lever bi rfl rfl fun cdv A outer s H E hr X eX W tk po => ?_
  subst eX
  unfold b_is_lever
  exact (mss_cons (ms_set (i := 4) (me_make (T.mkr 53) (ok_TellingsU_initU T) (hr.mono (by omega)) tk (T.glo 54) (ma_cons (me_var 0 (pv 0)) (ma_cons (me_var 1 (pv 1)) (ma_cons (me_var 2 (pv 2)) ma_nil)))) fun h => ps_set sc_is_lever.nd rfl (by first | exact .inl rfl | exact .inr rfl) h)
    (mss_cons (ms_set (i := 5) (me_fn (ok_places_of T) (hr.mono (by omega)) tk (T.glo 55) (ma_cons (me_var 0 (pv 0)) (ma_cons (me_var 3 (pv 3)) ma_nil))) fun h => ps_set sc_is_lever.nd rfl (by first | exact .inl rfl | exact .inr rfl) h)
    (mss_one (ms_ret (me_and (me_cmp od_isnot (me_var 5 (pv 5)) me_non) (me_one (me_mt (me_var 4 (pv 4)) (T.cls 49) (T.meth 56) (ok_Tellings_moves T) (hr.mono (by omega)) tk (ma_cons (me_var 5 (pv 5)) ma_nil))))))))
/-! checked_places: 0 program, 1 sources, 2 places -/
def b_checked_places (K : PySem.W.Frag) (W : XW) : SM :=
  (mSeq (mAsg (mCall (sp_places_of K) W (mCons (mVar 0) (mCons (mVar 1) mNil))) (gNm 2)) (mSeq (mIf (mB (mOp vIs (mVar 2) (mC .non)))
    (mRaise (He.ga K "InvalidSources") "sources" W (mCons (mVar 1) mNil))
    mNx) (mRet (mVar 2))))
theorem sc_checked_places : FnScope ["program", "sources", "places"] ["program", "sources"] (defScope st_checked_places) := ⟨rfl, rfl, rfl, by decide +kernel, rfl, by decide +kernel, by decide +kernel⟩
def sp_checked_places (K : PySem.W.Frag) : SpD := spB 2 1 (b_checked_places K)
theorem ok_checked_places (T : Tz fac fns sups PG_.main.file exns K mg) : Fd PG_ w K mg base 4 (He.ga K "checked_places") (sp_checked_places K) := by
  obtain ⟨fd, F⟩ := T.df 39 (d := df_checked_places)
  have bi : Binds K fd ["program", "sources"] [] := FunD.bindsN F fun _ _ _ _ _ _ us hl => match us, hl with | [_, _], _ => rfl
  refine ok_def (k := 3) F sc_checked_places bi rfl rfl fun cdv A outer s H E hr X eX W tk po => ?_
  subst eX
  unfold b_checked_places
  exact (mss_cons (ms_set (i := 2) (me_fn (ok_places_of T) (hr.mono (by omega)) tk (T.glo 55) (ma_cons (me_var 0 (pv 0)) (ma_cons (me_var 1 (pv 1)) ma_nil))) fun h => ps_set sc_checked_places.nd rfl (by first | exact .inl rfl | exact .inr rfl) h)
    (mss_cons (ms_if (mt_cmp od_is (me_var 2 (pv 2)) me_non)
    (mss_one (ms_raise rfl tk (hr.mono (by omega)) (ex_InvalidSources T) (ma_cons (me_var 1 (pv 1)) ma_nil)))
    mss_nil)
    (mss_one (ms_ret (me_var 2 (pv 2))))))
/-! lever_words: 0 program, 1 words, 2 name, 3 sources, 4 tellings, 5 others, 6 row, 7 told -/
def b_lever_words (K : PySem.W.Frag) (W : XW) : SM :=
  (mSeq (mAsg (mMake (He.ga K "Tellings") (sp_TellingsU_initU K) W (mCons (mVar 0) (mCons (mVar 1) (mCons (mVar 2) mNil)))) (gNm 4)) (mSeq (mAsg (mMeth (He.ga K "Tellings") "others" (sp_Tellings_others K) W (mVar 4) (mCons (mCall (sp_checked_places K) W (mCons (mVar 0) (mCons (mVar 3) mNil))) mNil)) (gNm 5)) (mSeq (mFor (iSeq (mFld K (mVar 4) "table")) (gT 2 (gC (gNm 6) (gC (gNm 7) gN)))
    (mIf (mAnd (mB (mOp vNe (mVar 7) (mFld K (mVar 4) "own"))) (mTru (mCall (sp_agree K) W (mCons (mVar 6) (mCons (mVar 1) (mCons (mVar 5) mNil))))))
    (mRet (mVar 6))
    mNx)) (mRet (mC .non)))))
theorem sc_lever_words : FnScope ["program", "words", "name", "sources", "tellings", "others", "row", "told"] ["program", "words", "name", "sources"] (defScope st_lever_words) := ⟨rfl, rfl, rfl, by decide +kernel, rfl, by decide +kernel, by decide +kernel⟩
def sp_lever_words (K : PySem.W.Frag) : SpD := spB 4 4 (b_lever_words K)
theorem ok_lever_words (T : Tz fac fns sups PG_.main.file exns K mg) : Fd PG_ w K mg base 24 (He.ga K "lever_words") (sp_lever_words K) := by
  obtain ⟨fd, F⟩ := T.df 40 (d := df_lever_words)
  have bi : Binds K fd ["program", "words", "name", "sources"] [] := FunD.bindsN F fun _ _ _ _ _ _ us hl => match us, hl with | [_, _, _, _], _ => rfl
  refine ok_def (k := 23) F sc_lever_words bi rfl rfl fun cdv A outer s H E hr X eX W tk po => ?_
  subst eX
  unfold b_lever_words
  exact (mss_cons (ms_set (i := 4) (me_make (T.mkr 53) (ok_TellingsU_initU T) (hr.mono (by omega)) tk (T.glo 54) (ma_cons (me_var 0 (pv 0)) (ma_cons (me_var 1 (pv 1)) (ma_cons (me_var 2 (pv 2)) ma_nil)))) fun h => ps_set sc_lever_words.nd rfl (by first | exact .inl rfl | exact .inr rfl) h)
    (mss_cons (ms_set (i := 5) (me_mt (me_var 4 (pv 4)) (T.cls 49) (T.meth 51) (ok_Tellings_others T) (hr.mono (by omega)) tk (ma_cons (me_fn (ok_checked_places T) (hr.mono (by omega)) tk (T.glo 57) (ma_cons (me_var 0 (pv 0)) (ma_cons (me_var 3 (pv 3)) ma_nil))) ma_nil)) fun h => ps_set sc_lever_words.nd rfl (by first | exact .inl rfl | exact .inr rfl) h)
    (mss_cons (ms_for po rfl (mi_seq (me_fld (me_var 4 (pv 4)))) (mg_tup rfl (mgs_cons (mg_name (pg_name sc_lever_words.nd rfl (by first | exact .inl rfl | exact .inr rfl))) (mgs_cons (mg_name (pg_name sc_lever_words.nd rfl (by first | exact .inl rfl | exact .inr rfl))) mgs_nil)))
    (mss_one (ms_if (MW.mt (mw_and (mt_cmp (od_ne (hu64 hr)) (me_var 7 (pv 7)) (me_fld (me_var 4 (pv 4)))) (mw_and1 (mt_tru (me_fn (ok_agree T) (hr.mono (by omega)) tk (T.glo 48) (ma_cons (me_var 6 (pv 6)) (ma_cons (me_var 1 (pv 1)) (ma_cons (me_var 5 (pv 5)) ma_nil))))))))
    (mss_one (ms_ret (me_var 6 (pv 6))))
    mss_nil)) (fun h1 h2 h3 => ps_for po rfl h1 h2 h3))
    (mss_one (ms_ret me_non)))))
/-! _law_draw: 0 _law_state_here, 1 _law_many_here, 2 _law_cell, 3 _law_digit, 4 _law_one, 5 _law_two, 6 _law_three -/
def b__law_draw (K : PySem.W.Frag) (W : XW) : SM :=
  (mSeq (mAugS (mVar 0) (mC (.int 3)) (mC (.int 1)) vIadd) (mSeq (mIf (mAnd (mB (mOp vEq (mOp vIx (mVar 0) (mC (.int 2))) (mC (.int 0)))) (mB (mOp vLt (mOp vIx (mVar 0) (mC (.int 1))) (mCB vLen (mCons (mOp vIx (mVar 0) (mC (.int 0))) mNil)))))
    (mSeq (mAsg (mOp vIx (mOp vIx (mVar 0) (mC (.int 0))) (mOp vIx (mVar 0) (mC (.int 1)))) (gNm 2)) (mSeq (mAugS (mVar 0) (mC (.int 1)) (mC (.int 1)) vIadd) (mIf (mB (mOp vGe (mCB vAbs (mCons (mVar 2) mNil)) (mOp vPow (mC (.int 10)) (mC (.int 18)))))
    (mAsg (mCB vAbs (mCons (mVar 2) mNil)) (gIx (mVar 0) (mC (.int 2))))
    (mAsg (mOp vMod (mCB vInt (mCons (mOp vAdd (mOp vAdd (mOp vMul (mOp vIx (mVar 0) (mC (.int 4))) (mC (.int 69621))) (mVar 2)) (mC (.int 7919))) mNil)) (mC (.int 2147483647))) (gIx (mVar 0) (mC (.int 4)))))))
    mNx) (mSeq (mIf (mB (mOp vGt (mOp vIx (mVar 0) (mC (.int 2))) (mC (.int 0))))
    (mSeq (mAsg (mOp vMod (mCB vInt (mCons (mOp vIx (mVar 0) (mC (.int 2))) mNil)) (mVar 1)) (gNm 3)) (mSeq (mAsg (mOp vFdiv (mOp vIx (mVar 0) (mC (.int 2))) (mVar 1)) (gIx (mVar 0) (mC (.int 2)))) (mRet (mVar 3))))
    mNx) (mSeq (mAsg (mOp vMod (mCB vInt (mCons (mOp vMul (mOp vAdd (mOp vAdd (mOp vIx (mVar 0) (mC (.int 4))) (mOp vMul (mC (.int 7919)) (mOp vIx (mVar 0) (mC (.int 3))))) (mC (.int 1))) (mC (.int 48271))) mNil)) (mC (.int 2147483647))) (gNm 4)) (mSeq (mAsg (mOp vMod (mCB vInt (mCons (mOp vMul (mVar 4) (mOp vAdd (mOp vFdiv (mVar 4) (mC (.int 1009))) (mC (.int 69621)))) mNil)) (mC (.int 2147483647))) (gNm 5)) (mSeq (mAsg (mOp vMod (mCB vInt (mCons (mOp vMul (mVar 5) (mOp vAdd (mOp vFdiv (mVar 5) (mC (.int 2003))) (mC (.int 40692)))) mNil)) (mC (.int 2147483399))) (gNm 6)) (mRet (mOp vMod (mCB vInt (mCons (mOp vFdiv (mVar 6) (mC (.int 16))) mNil)) (mVar 1)))))))))
theorem sc__law_draw : FnScope ["_law_state_here", "_law_many_here", "_law_cell", "_law_digit", "_law_one", "_law_two", "_law_three"] ["_law_state_here", "_law_many_here"] (defScope st__law_draw) := ⟨rfl, rfl, rfl, by decide +kernel, rfl, by decide +kernel, by decide +kernel⟩
def sp__law_draw (K : PySem.W.Frag) : SpD := spB 2 5 (b__law_draw K)
theorem ok__law_draw (T : Tz fac fns sups PG_.main.file exns K mg) : Fd PG_ w K mg base 2 (He.ga K "_law_draw") (sp__law_draw K) := by
  obtain ⟨fd, F⟩ := T.df 41 (d := df__law_draw)
  have bi : Binds K fd ["_law_state_here", "_law_many_here"] [] := FunD.bindsN F fun _ _ _ _ _ _ us hl => match us, hl with | [_, _], _ => rfl
  refine ok_def (k := 1) F sc__law_draw bi rfl rfl fun cdv A outer s H E hr X eX W tk po => ?_
  subst eX
  unfold b__law_draw
  exact (mss_cons (ms_augS (hu1 hr) (me_var 0 (pv 0)) me_int me_int od_iad)
    (mss_cons (ms_if (MW.mt (mw_and (mt_cmp (od_eq (hu64 hr)) (me_ix (hu1 hr) (me_var 0 (pv 0)) me_int) me_int) (mw_and1 (mt_cmp od_lt (me_ix (hu1 hr) (me_var 0 (pv 0)) me_int) (me_callB cd_len (ma_cons (me_ix (hu1 hr) (me_var 0 (pv 0)) me_int) ma_nil) fun h1 h2 => pe_callB h1 rfl (T.free 13) boot_len h2)))))
    (mss_cons (ms_set (i := 2) (me_ix (hu1 hr) (me_ix (hu1 hr) (me_var 0 (pv 0)) me_int) (me_ix (hu1 hr) (me_var 0 (pv 0)) me_int)) fun h => ps_set sc__law_draw.nd rfl (by first | exact .inl rfl | exact .inr rfl) h)
    (mss_cons (ms_augS (hu1 hr) (me_var 0 (pv 0)) me_int me_int od_iad)
    (mss_one (ms_if (mt_cmp od_ge (me_callB cd_abs (ma_cons (me_var 2 (pv 2)) ma_nil) fun h1 h2 => pe_callB h1 rfl (T.free 58) boot_abs h2) (me_op od_pow me_int me_int))
    (mss_one (ms_asg (me_callB cd_abs (ma_cons (me_var 2 (pv 2)) ma_nil) fun h1 h2 => pe_callB h1 rfl (T.free 58) boot_abs h2) (mg_sub (hu1 hr) (me_var 0 (pv 0)) me_int)))
    (mss_one (ms_asg (me_op od_mod (me_callT cd_int (ma_cons (me_op od_add (me_op od_add (me_op od_mul (me_ix (hu1 hr) (me_var 0 (pv 0)) me_int) me_int) (me_var 2 (pv 2))) me_int) ma_nil) fun h1 h2 => pe_callTy h1 rfl (T.free 59) boot_int h2) me_int) (mg_sub (hu1 hr) (me_var 0 (pv 0)) me_int)))))))
    mss_nil)
    (mss_cons (ms_if (mt_cmp od_gt (me_ix (hu1 hr) (me_var 0 (pv 0)) me_int) me_int)
    (mss_cons (ms_set (i := 3) (me_op od_mod (me_callT cd_int (ma_cons (me_ix (hu1 hr) (me_var 0 (pv 0)) me_int) ma_nil) fun h1 h2 => pe_callTy h1 rfl (T.free 59) boot_int h2) (me_var 1 (pv 1))) fun h => ps_set sc__law_draw.nd rfl (by first | exact .inl rfl | exact .inr rfl) h)
    (mss_cons (ms_asg (me_op od_fdiv (me_ix (hu1 hr) (me_var 0 (pv 0)) me_int) (me_var 1 (pv 1))) (mg_sub (hu1 hr) (me_var 0 (pv 0)) me_int))
    (mss_one (ms_ret (me_var 3 (pv 3))))))
    mss_nil)
    (mss_cons (ms_set (i := 4) (me_op od_mod (me_callT cd_int (ma_cons (me_op od_mul (me_op od_add (me_op od_add (me_ix (hu1 hr) (me_var 0 (pv 0)) me_int) (me_op od_mul me_int (me_ix (hu1 hr) (me_var 0 (pv 0)) me_int))) me_int) me_int) ma_nil) fun h1 h2 => pe_callTy h1 rfl (T.free 59) boot_int h2) me_int) fun h => ps_set sc__law_draw.nd rfl (by first | exact .inl rfl | exact .inr rfl) h)
    (mss_cons (ms_set (i := 5) (me_op od_mod (me_callT cd_int (ma_cons (me_op od_mul (me_var 4 (pv 4)) (me_op od_add (me_op od_fdiv (me_var 4 (pv 4)) me_int) me_int)) ma_nil) fun h1 h2 => pe_callTy h1 rfl (T.free 59) boot_int h2) me_int) fun h => ps_set sc__law_draw.nd rfl (by first | exact .inl rfl | exact .inr rfl) h)
    (mss_cons (ms_set (i := 6) (me_op od_mod (me_callT cd_int (ma_cons (me_op od_mul (me_var 5 (pv 5)) (me_op od_add (me_op od_fdiv (me_var 5 (pv 5)) me_int) me_int)) ma_nil) fun h1 h2 => pe_callTy h1 rfl (T.free 59) boot_int h2) me_int) fun h => ps_set sc__law_draw.nd rfl (by first | exact .inl rfl | exact .inr rfl) h)
    (mss_one (ms_ret (me_op od_mod (me_callT cd_int (ma_cons (me_op od_fdiv (me_var 6 (pv 6)) me_int) ma_nil) fun h1 h2 => pe_callTy h1 rfl (T.free 59) boot_int h2) (me_var 1 (pv 1)))))))))))
/-! _law_keeps: 0 _law_words_here, 1 _law_row_here, 2 _law_places, 3 _law_place -/
def b__law_keeps (K : PySem.W.Frag) (W : XW) : SM :=
  (mRet (mOp vEq (mCB vLen (mCons (mLc (iSeq (mVar 2)) (gNm 3) (mB (mOp vNe (mOp vIx (mVar 0) (mVar 3)) (mOp vIx (mVar 1) (mVar 3)))) (mVar 3) [3]) mNil)) (mC (.int 0))))
theorem sc__law_keeps : FnScope ["_law_words_here", "_law_row_here", "_law_places", "_law_place"] ["_law_words_here", "_law_row_here", "_law_places"] (defScope st__law_keeps) := ⟨rfl, rfl, rfl, by decide +kernel, rfl, by decide +kernel, by decide +kernel⟩
def sp__law_keeps (K : PySem.W.Frag) : SpD := spB 3 1 (b__law_keeps K)
theorem ok__law_keeps (T : Tz fac fns sups PG_.main.file exns K mg) : Fd PG_ w K mg base 2 (He.ga K "_law_keeps") (sp__law_keeps K) := by
  obtain ⟨fd, F⟩ := T.df 42 (d := df__law_keeps)
  have bi : Binds K fd ["_law_words_here", "_law_row_here", "_law_places"] [] := FunD.bindsN F fun _ _ _ _ _ _ us hl => match us, hl with | [_, _, _], _ => rfl
  refine ok_def (k := 1) F sc__law_keeps bi rfl rfl fun cdv A outer s H E hr X eX W tk po => ?_
  subst eX
  unfold b__law_keeps
  exact (mss_one (ms_ret (me_cmp (od_eq (hu64 hr)) (me_callB cd_len (ma_cons (me_lc rfl sc__law_keeps.nd (mi_seq (me_var 2 (pv 2))) (own := [("_law_place", 3)]) (blkOk_by (by kernel_rfl)) bt_nm (fun _ _ _ _ _ => pg_name sc__law_keeps.nd rfl (by first | exact .inl rfl | exact .inr rfl)) (fun _ _ _ _ _ => mts_one (mt_cmp (od_ne (hu64 hr)) (me_ix (hu1 hr) (me_var 0 (pv 0)) (me_var 3 (pv 3))) (me_ix (hu1 hr) (me_var 1 (pv 1)) (me_var 3 (pv 3))))) (fun _ _ _ _ _ => (me_var 3 (pv 3)))) ma_nil) fun h1 h2 => pe_callB h1 rfl (T.free 13) boot_len h2) me_int)))
/-! _law_rest_of: 0 _law_places, 1 _law_many_here, 2 _law_place -/
def b__law_rest_of (K : PySem.W.Frag) (W : XW) : SM :=
  (mRet (mCB vTuple (mCons (mLc (iRange1 (mCons (mVar 1) mNil)) (gNm 2) (mB (mOp vNotIn (mVar 2) (mVar 0))) (mVar 2) [2]) mNil)))
theorem sc__law_rest_of : FnScope ["_law_places", "_law_many_here", "_law_place"] ["_law_places", "_law_many_here"] (defScope st__law_rest_of) := ⟨rfl, rfl, rfl, by decide +kernel, rfl, by decide +kernel, by decide +kernel⟩
def sp__law_rest_of (K : PySem.W.Frag) : SpD := spB 2 1 (b__law_rest_of K)
theorem ok__law_rest_of (T : Tz fac fns sups PG_.main.file exns K mg) : Fd PG_ w K mg base 2 (He.ga K "_law_rest_of") (sp__law_rest_of K) := by
  obtain ⟨fd, F⟩ := T.df 43 (d := df__law_rest_of)
  have bi : Binds K fd ["_law_places", "_law_many_here"] [] := FunD.bindsN F fun _ _ _ _ _ _ us hl => match us, hl with | [_, _], _ => rfl
  refine ok_def (k := 1) F sc__law_rest_of bi rfl rfl fun cdv A outer s H E hr X eX W tk po => ?_
  subst eX
  unfold b__law_rest_of
  exact (mss_one (ms_ret (me_callT cd_tuple (ma_cons (me_lc rfl sc__law_rest_of.nd (mi_range1 (ma_cons (me_var 1 (pv 1)) ma_nil) fun h => pi_range1 rfl (T.free 44) h) (own := [("_law_place", 2)]) (blkOk_by (by kernel_rfl)) bt_nm (fun _ _ _ _ _ => pg_name sc__law_rest_of.nd rfl (by first | exact .inl rfl | exact .inr rfl)) (fun _ _ _ _ _ => mts_one (mt_cmp (od_notin (hu65 hr)) (me_var 2 (pv 2)) (me_var 0 (pv 0)))) (fun _ _ _ _ _ => (me_var 2 (pv 2)))) ma_nil) fun h1 h2 => pe_callTy h1 rfl (T.free 14) boot_tuple h2)))
/-! _law_state: 0 _law_script -/
def b__law_state (K : PySem.W.Frag) (W : XW) : SM :=
  (mRet (mLst (mCons (mCB vList (mCons (mSl (mVar 0) mNoP (mP (mC (.int 63)))) mNil)) (mCons (mC (.int 0)) (mCons (mC (.int 0)) (mCons (mC (.int 0)) (mCons (mC (.int 1)) mNil)))))))
theorem sc__law_state : FnScope ["_law_script"] ["_law_script"] (defScope st__law_state) := ⟨rfl, rfl, rfl, by decide +kernel, rfl, by decide +kernel, by decide +kernel⟩
def sp__law_state (K : PySem.W.Frag) : SpD := spB 1 0 (b__law_state K)
theorem ok__law_state (T : Tz fac fns sups PG_.main.file exns K mg) : Fd PG_ w K mg base 2 (He.ga K "_law_state") (sp__law_state K) := by
  obtain ⟨fd, F⟩ := T.df 44 (d := df__law_state)
  have bi : Binds K fd ["_law_script"] [] := FunD.bindsN F fun _ _ _ _ _ _ us hl => match us, hl with | [_], _ => rfl
  refine ok_def (k := 1) F sc__law_state bi rfl rfl fun cdv A outer s H E hr X eX W tk po => ?_
  subst eX
  unfold b__law_state
  exact (mss_one (ms_ret (me_lst (ma_cons (me_callT cd_list (ma_cons (me_sl (me_var 0 (pv 0)) mo_none (mo_some me_int)) ma_nil) fun h1 h2 => pe_callTy h1 rfl (T.free 35) boot_list h2) (ma_cons me_int (ma_cons me_int (ma_cons me_int (ma_cons me_int ma_nil))))))))
/-! _law_names: 0 _law_state_here, 1 _law_many_here, 2 _law_place, 3 _law_first, 4 _law_same_size, 5 _law_base, 6 _law_letters, 7 _law_names_here, 8 _law_k, 9 _law_other, 10 _law_size, 11 _law_name, 12 _law_at -/
def b__law_names (K : PySem.W.Frag) (W : XW) : SM :=
  (mSeq (mAsg (mCall (sp__law_draw K) W (mCons (mVar 0) (mCons (mC (.int 8)) mNil))) (gNm 2)) (mSeq (mAsg (mCall (sp__law_draw K) W (mCons (mVar 0) (mCons (mC (.int 26)) mNil))) (gNm 3)) (mSeq (mAsg (mCall (sp__law_draw K) W (mCons (mVar 0) (mCons (mC (.int 2)) mNil))) (gNm 4)) (mSeq (mAsg (mCall (sp__law_draw K) W (mCons (mVar 0) (mCons (mOp vPow (mC (.int 26)) (mC (.int 7))) mNil))) (gNm 5)) (mSeq (mAsg (mC (.str "abcdefghijklmnopqrstuvwxyz")) (gNm 6)) (mSeq (mAsg (mLst mNil) (gNm 7)) (mSeq (mFor (iRange1 (mCons (mVar 1) mNil)) (gNm 8)
    (mSeq (mAsg (mVar 5) (gNm 9)) (mSeq (mAsg (mOp vAdd (mVar 2) (mC (.int 1))) (gNm 10)) (mSeq (mIf (mB (mOp vEq (mVar 4) (mC (.int 0))))
    (mSeq (mAsg (mCall (sp__law_draw K) W (mCons (mVar 0) (mCons (mOp vPow (mC (.int 26)) (mC (.int 7))) mNil))) (gNm 9)) (mAsg (mOp vAdd (mOp vAdd (mVar 2) (mC (.int 1))) (mCall (sp__law_draw K) W (mCons (mVar 0) (mCons (mOp vSub (mC (.int 8)) (mVar 2)) mNil)))) (gNm 10)))
    mNx) (mSeq (mAsg (mC (.str "")) (gNm 11)) (mSeq (mFor (iRange1 (mCons (mVar 10) mNil)) (gNm 12)
    (mIf (mB (mOp vEq (mVar 12) (mVar 2)))
    (mAsg (mOp vAdd (mVar 11) (mOp vIx (mVar 6) (mOp vMod (mCB vInt (mCons (mOp vAdd (mVar 3) (mOp vMul (mC (.int 7)) (mVar 8))) mNil)) (mC (.int 26))))) (gNm 11))
    (mSeq (mAsg (mOp vAdd (mVar 11) (mOp vIx (mVar 6) (mOp vMod (mCB vInt (mCons (mVar 9) mNil)) (mC (.int 26))))) (gNm 11)) (mAsg (mOp vFdiv (mVar 9) (mC (.int 26))) (gNm 9))))) (mDrop (mMet okL rApp (mVar 7) (mCons (mVar 11) mNil))))))))) (mRet (mVar 7)))))))))
theorem sc__law_names : FnScope ["_law_state_here", "_law_many_here", "_law_place", "_law_first", "_law_same_size", "_law_base", "_law_letters", "_law_names_here", "_law_k", "_law_other", "_law_size", "_law_name", "_law_at"] ["_law_state_here", "_law_many_here"] (defScope st__law_names) := ⟨rfl, rfl, rfl, by decide +kernel, rfl, by decide +kernel, by decide +kernel⟩
def sp__law_names (K : PySem.W.Frag) : SpD := spB 2 11 (b__law_names K)
theorem ok__law_names (T : Tz fac fns sups PG_.main.file exns K mg) : Fd PG_ w K mg base 4 (He.ga K "_law_names") (sp__law_names K) := by
  obtain ⟨fd, F⟩ := T.df 45 (d := df__law_names)
  have bi : Binds K fd ["_law_state_here", "_law_many_here"] [] := FunD.bindsN F fun _ _ _ _ _ _ us hl => match us, hl with | [_, _], _ => rfl
  refine ok_def (k := 3) F sc__law_names bi rfl rfl fun cdv A outer s H E hr X eX W tk po => ?_
  subst eX
  unfold b__law_names
  exact (mss_cons (ms_set (i := 2) (me_fn (ok__law_draw T) (hr.mono (by omega)) tk (T.glo 60) (ma_cons (me_var 0 (pv 0)) (ma_cons me_int ma_nil))) fun h => ps_set sc__law_names.nd rfl (by first | exact .inl rfl | exact .inr rfl) h)
    (mss_cons (ms_set (i := 3) (me_fn (ok__law_draw T) (hr.mono (by omega)) tk (T.glo 60) (ma_cons (me_var 0 (pv 0)) (ma_cons me_int ma_nil))) fun h => ps_set sc__law_names.nd rfl (by first | exact .inl rfl | exact .inr rfl) h)
    (mss_cons (ms_set (i := 4) (me_fn (ok__law_draw T) (hr.mono (by omega)) tk (T.glo 60) (ma_cons (me_var 0 (pv 0)) (ma_cons me_int ma_nil))) fun h => ps_set sc__law_names.nd rfl (by first | exact .inl rfl | exact .inr rfl) h)
    (mss_cons (ms_set (i := 5) (me_fn (ok__law_draw T) (hr.mono (by omega)) tk (T.glo 60) (ma_cons (me_var 0 (pv 0)) (ma_cons (me_op od_pow me_int me_int) ma_nil))) fun h => ps_set sc__law_names.nd rfl (by first | exact .inl rfl | exact .inr rfl) h)
    (mss_cons (ms_set (i := 6) me_str fun h => ps_set sc__law_names.nd rfl (by first | exact .inl rfl | exact .inr rfl) h)
    (mss_cons (ms_set (i := 7) (me_lst ma_nil) fun h => ps_set sc__law_names.nd rfl (by first | exact .inl rfl | exact .inr rfl) h)
    (mss_cons (ms_for po rfl (mi_range1 (ma_cons (me_var 1 (pv 1)) ma_nil) fun h => pi_range1 rfl (T.free 44) h) (mg_name (pg_name sc__law_names.nd rfl (by first | exact .inl rfl | exact .inr rfl)))
    (mss_cons (ms_set (i := 9) (me_var 5 (pv 5)) fun h => ps_set sc__law_names.nd rfl (by first | exact .inl rfl | exact .inr rfl) h)
    (mss_cons (ms_set (i := 10) (me_op od_add (me_var 2 (pv 2)) me_int) fun h => ps_set sc__law_names.nd rfl (by first | exact .inl rfl | exact .inr rfl) h)
    (mss_cons (ms_if (mt_cmp (od_eq (hu64 hr)) (me_var 4 (pv 4)) me_int)
    (mss_cons (ms_set (i := 9) (me_fn (ok__law_draw T) (hr.mono (by omega)) tk (T.glo 60) (ma_cons (me_var 0 (pv 0)) (ma_cons (me_op od_pow me_int me_int) ma_nil))) fun h => ps_set sc__law_names.nd rfl (by first | exact .inl rfl | exact .inr rfl) h)
    (mss_one (ms_set (i := 10) (me_op od_add (me_op od_add (me_var 2 (pv 2)) me_int) (me_fn (ok__law_draw T) (hr.mono (by omega)) tk (T.glo 60) (ma_cons (me_var 0 (pv 0)) (ma_cons (me_op od_sub me_int (me_var 2 (pv 2))) ma_nil)))) fun h => ps_set sc__law_names.nd rfl (by first | exact .inl rfl | exact .inr rfl) h)))
    mss_nil)
    (mss_cons (ms_set (i := 11) me_str fun h => ps_set sc__law_names.nd rfl (by first | exact .inl rfl | exact .inr rfl) h)
    (mss_cons (ms_for po rfl (mi_range1 (ma_cons (me_var 10 (pv 10)) ma_nil) fun h => pi_range1 rfl (T.free 44) h) (mg_name (pg_name sc__law_names.nd rfl (by first | exact .inl rfl | exact .inr rfl)))
    (mss_one (ms_if (mt_cmp (od_eq (hu64 hr)) (me_var 12 (pv 12)) (me_var 2 (pv 2)))
    (mss_one (ms_set (i := 11) (me_op od_add (me_var 11 (pv 11)) (me_ix (hu1 hr) (me_var 6 (pv 6)) (me_op od_mod (me_callT cd_int (ma_cons (me_op od_add (me_var 3 (pv 3)) (me_op od_mul me_int (me_var 8 (pv 8)))) ma_nil) fun h1 h2 => pe_callTy h1 rfl (T.free 59) boot_int h2) me_int))) fun h => ps_set sc__law_names.nd rfl (by first | exact .inl rfl | exact .inr rfl) h))
    (mss_cons (ms_set (i := 11) (me_op od_add (me_var 11 (pv 11)) (me_ix (hu1 hr) (me_var 6 (pv 6)) (me_op od_mod (me_callT cd_int (ma_cons (me_var 9 (pv 9)) ma_nil) fun h1 h2 => pe_callTy h1 rfl (T.free 59) boot_int h2) me_int))) fun h => ps_set sc__law_names.nd rfl (by first | exact .inl rfl | exact .inr rfl) h)
    (mss_one (ms_set (i := 9) (me_op od_fdiv (me_var 9 (pv 9)) me_int) fun h => ps_set sc__law_names.nd rfl (by first | exact .inl rfl | exact .inr rfl) h))))) (fun h1 h2 h3 => ps_for po rfl h1 h2 h3))
    (mss_one (ms_expr (me_append (me_var 7 (pv 7)) (ma_cons (me_var 11 (pv 11)) ma_nil))))))))) (fun h1 h2 h3 => ps_for po rfl h1 h2 h3))
    (mss_one (ms_ret (me_var 7 (pv 7)))))))))))
/-! _law_many: 0 _law_rows_here, 1 _law_total, 2 _law_row_here -/
def b__law_many (K : PySem.W.Frag) (rec : SpD) (W : XW) : SM :=
  (mSeq (mAsg (mCB vLen (mCons (mVar 0) mNil)) (gNm 1)) (mSeq (mFor (iSeq (mVar 0)) (gNm 2)
    (mIf (mB (mOp vEq (mOp vIx (mVar 2) (mC (.int 0))) (mC (.str "if"))))
    (mAug 1 (mOp vAdd (mCall rec W (mCons (mOp vIx (mVar 2) (mC (.int 3))) mNil)) (mCall rec W (mCons (mOp vIx (mVar 2) (mC (.int 4))) mNil))) vIadd)
    mNx)) (mRet (mVar 1))))
theorem sc__law_many : FnScope ["_law_rows_here", "_law_total", "_law_row_here"] ["_law_rows_here"] (defScope st__law_many) := ⟨rfl, rfl, rfl, by decide +kernel, rfl, by decide +kernel, by decide +kernel⟩
def sp__law_many (K : PySem.W.Frag) : Nat → SpD
  | 0 => fun _ _ _ _ => False
  | n + 1 => spB 1 2 (b__law_many K (sp__law_many K n))
theorem ok__law_many (T : Tz fac fns sups PG_.main.file exns K mg) : ∀ n, Fd PG_ w K mg base (2 + n) (He.ga K "_law_many") (sp__law_many K n) := by
  obtain ⟨fd, F⟩ := T.df 46 (d := df__law_many)
  have bi : Binds K fd ["_law_rows_here"] [] := FunD.bindsN F fun _ _ _ _ _ _ us hl => match us, hl with | [_], _ => rfl
  intro n
  induction n with
  | zero => exact fd_no bi F.kp
  | succ n RC =>
  refine ok_def (k := 2 + n) F sc__law_many bi rfl rfl fun cdv A outer s H E hr X eX W tk po => ?_
  subst eX
  unfold b__law_many
  exact (mss_cons (ms_set (i := 1) (me_callB cd_len (ma_cons (me_var 0 (pv 0)) ma_nil) fun h1 h2 => pe_callB h1 rfl (T.free 13) boot_len h2) fun h => ps_set sc__law_many.nd rfl (by first | exact .inl rfl | exact .inr rfl) h)
    (mss_cons (ms_for po rfl (mi_seq (me_var 0 (pv 0))) (mg_name (pg_name sc__law_many.nd rfl (by first | exact .inl rfl | exact .inr rfl)))
    (mss_one (ms_if (mt_cmp (od_eq (hu64 hr)) (me_ix (hu1 hr) (me_var 2 (pv 2)) me_int) me_str)
    (mss_one (ms_aug (i := 1) (me_op od_add (me_fn RC (hr.mono (by omega)) tk (T.glo 61) (ma_cons (me_ix (hu1 hr) (me_var 2 (pv 2)) me_int) ma_nil)) (me_fn RC (hr.mono (by omega)) tk (T.glo 61) (ma_cons (me_ix (hu1 hr) (me_var 2 (pv 2)) me_int) ma_nil))) od_iad fun h1 h2 => ps_aug sc__law_many.nd rfl (by first | exact .inl rfl | exact .inr rfl) h1 h2))
    mss_nil)) (fun h1 h2 h3 => ps_for po rfl h1 h2 h3))
    (mss_one (ms_ret (me_var 1 (pv 1))))))
/-! _law_row: 0 _law_state_here, 1 _law_shape, 2 _law_kind, 3 _law_slot, 4 _law_cell -/
def b__law_row (K : PySem.W.Frag) (W : XW) : SM :=
  (mSeq (mAsg (mCall (sp__law_draw K) W (mCons (mVar 0) (mCons (mC (.int 6)) mNil))) (gNm 2)) (mSeq (mAsg (mOp vIx (mOp vIx (mVar 1) (mC (.str "slots"))) (mCall (sp__law_draw K) W (mCons (mVar 0) (mCons (mCB vLen (mCons (mOp vIx (mVar 1) (mC (.str "slots"))) mNil)) mNil)))) (gNm 3)) (mSeq (mIf (mB (mOp vEq (mVar 2) (mC (.int 0))))
    (mRet (mTup (mCons (mC (.str "put")) (mCons (mVar 3) (mCons (mOp vIx (mOp vIx (mVar 1) (mC (.str "words"))) (mCall (sp__law_draw K) W (mCons (mVar 0) (mCons (mCB vLen (mCons (mOp vIx (mVar 1) (mC (.str "words"))) mNil)) mNil)))) mNil)))))
    mNx) (mSeq (mIf (mAnd (mB (mOp vEq (mVar 2) (mC (.int 1)))) (mB (mOp vEq (mOp vIx (mVar 1) (mC (.str "kind"))) (mC (.str "derived")))))
    (mRet (mTup (mCons (mC (.str "give")) (mCons (mVar 3) mNil))))
    mNx) (mSeq (mIf (mB (mOp vEq (mVar 2) (mC (.int 1))))
    (mRet (mTup (mCons (mC (.str "say")) (mCons (mVar 3) mNil))))
    mNx) (mSeq (mIf (mAnd (mB (mOp vEq (mVar 2) (mC (.int 2)))) (mTru (mOp vIx (mVar 1) (mC (.str "writes")))))
    (mRet (mTup (mCons (mC (.str "write")) (mCons (mOp vIx (mOp vIx (mVar 1) (mC (.str "sources"))) (mCall (sp__law_draw K) W (mCons (mVar 0) (mCons (mCB vLen (mCons (mOp vIx (mVar 1) (mC (.str "sources"))) mNil)) mNil)))) (mCons (mVar 3) mNil)))))
    mNx) (mSeq (mAsg (mOp vIx (mOp vIx (mVar 1) (mC (.str "cells"))) (mCall (sp__law_draw K) W (mCons (mVar 0) (mCons (mCB vLen (mCons (mOp vIx (mVar 1) (mC (.str "cells"))) mNil)) mNil)))) (gNm 4)) (mSeq (mIf (mAnd (mB (mOp vEq (mVar 2) (mC (.int 3)))) (mTru (mOp vIx (mVar 1) (mC (.str "peeks")))))
    (mRet (mTup (mCons (mC (.str "peek")) (mCons (mVar 4) (mCons (mVar 3) mNil)))))
    mNx) (mRet (mTup (mCons (mC (.str "read")) (mCons (mVar 4) (mCons (mVar 3) mNil)))))))))))))
theorem sc__law_row : FnScope ["_law_state_here", "_law_shape", "_law_kind", "_law_slot", "_law_cell"] ["_law_state_here", "_law_shape"] (defScope st__law_row) := ⟨rfl, rfl, rfl, by decide +kernel, rfl, by decide +kernel, by decide +kernel⟩
def sp__law_row (K : PySem.W.Frag) : SpD := spB 2 3 (b__law_row K)
theorem ok__law_row (T : Tz fac fns sups PG_.main.file exns K mg) : Fd PG_ w K mg base 4 (He.ga K "_law_row") (sp__law_row K) := by
  obtain ⟨fd, F⟩ := T.df 47 (d := df__law_row)
  have bi : Binds K fd ["_law_state_here", "_law_shape"] [] := FunD.bindsN F fun _ _ _ _ _ _ us hl => match us, hl with | [_, _], _ => rfl
  refine ok_def (k := 3) F sc__law_row bi rfl rfl fun cdv A outer s H E hr X eX W tk po => ?_
  subst eX
  unfold b__law_row
  exact (mss_cons (ms_set (i := 2) (me_fn (ok__law_draw T) (hr.mono (by omega)) tk (T.glo 60) (ma_cons (me_var 0 (pv 0)) (ma_cons me_int ma_nil))) fun h => ps_set sc__law_row.nd rfl (by first | exact .inl rfl | exact .inr rfl) h)
    (mss_cons (ms_set (i := 3) (me_ix (hu1 hr) (me_ix (hu1 hr) (me_var 1 (pv 1)) me_str) (me_fn (ok__law_draw T) (hr.mono (by omega)) tk (T.glo 60) (ma_cons (me_var 0 (pv 0)) (ma_cons (me_callB cd_len (ma_cons (me_ix (hu1 hr) (me_var 1 (pv 1)) me_str) ma_nil) fun h1 h2 => pe_callB h1 rfl (T.free 13) boot_len h2) ma_nil)))) fun h => ps_set sc__law_row.nd rfl (by first | exact .inl rfl | exact .inr rfl) h)
    (mss_cons (ms_if (mt_cmp (od_eq (hu64 hr)) (me_var 2 (pv 2)) me_int)
    (mss_one (ms_ret (me_tup (ma_cons me_str (ma_cons (me_var 3 (pv 3)) (ma_cons (me_ix (hu1 hr) (me_ix (hu1 hr) (me_var 1 (pv 1)) me_str) (me_fn (ok__law_draw T) (hr.mono (by omega)) tk (T.glo 60) (ma_cons (me_var 0 (pv 0)) (ma_cons (me_callB cd_len (ma_cons (me_ix (hu1 hr) (me_var 1 (pv 1)) me_str) ma_nil) fun h1 h2 => pe_callB h1 rfl (T.free 13) boot_len h2) ma_nil)))) ma_nil))))))
    mss_nil)
    (mss_cons (ms_if (MW.mt (mw_and (mt_cmp (od_eq (hu64 hr)) (me_var 2 (pv 2)) me_int) (mw_and1 (mt_cmp (od_eq (hu64 hr)) (me_ix (hu1 hr) (me_var 1 (pv 1)) me_str) me_str))))
    (mss_one (ms_ret (me_tup (ma_cons me_str (ma_cons (me_var 3 (pv 3)) ma_nil)))))
    mss_nil)
    (mss_cons (ms_if (mt_cmp (od_eq (hu64 hr)) (me_var 2 (pv 2)) me_int)
    (mss_one (ms_ret (me_tup (ma_cons me_str (ma_cons (me_var 3 (pv 3)) ma_nil)))))
    mss_nil)
    (mss_cons (ms_if (MW.mt (mw_and (mt_cmp (od_eq (hu64 hr)) (me_var 2 (pv 2)) me_int) (mw_and1 (mt_tru (me_ix (hu1 hr) (me_var 1 (pv 1)) me_str)))))
    (mss_one (ms_ret (me_tup (ma_cons me_str (ma_cons (me_ix (hu1 hr) (me_ix (hu1 hr) (me_var 1 (pv 1)) me_str) (me_fn (ok__law_draw T) (hr.mono (by omega)) tk (T.glo 60) (ma_cons (me_var 0 (pv 0)) (ma_cons (me_callB cd_len (ma_cons (me_ix (hu1 hr) (me_var 1 (pv 1)) me_str) ma_nil) fun h1 h2 => pe_callB h1 rfl (T.free 13) boot_len h2) ma_nil)))) (ma_cons (me_var 3 (pv 3)) ma_nil))))))
    mss_nil)
    (mss_cons (ms_set (i := 4) (me_ix (hu1 hr) (me_ix (hu1 hr) (me_var 1 (pv 1)) me_str) (me_fn (ok__law_draw T) (hr.mono (by omega)) tk (T.glo 60) (ma_cons (me_var 0 (pv 0)) (ma_cons (me_callB cd_len (ma_cons (me_ix (hu1 hr) (me_var 1 (pv 1)) me_str) ma_nil) fun h1 h2 => pe_callB h1 rfl (T.free 13) boot_len h2) ma_nil)))) fun h => ps_set sc__law_row.nd rfl (by first | exact .inl rfl | exact .inr rfl) h)
    (mss_cons (ms_if (MW.mt (mw_and (mt_cmp (od_eq (hu64 hr)) (me_var 2 (pv 2)) me_int) (mw_and1 (mt_tru (me_ix (hu1 hr) (me_var 1 (pv 1)) me_str)))))
    (mss_one (ms_ret (me_tup (ma_cons me_str (ma_cons (me_var 4 (pv 4)) (ma_cons (me_var 3 (pv 3)) ma_nil))))))
    mss_nil)
    (mss_one (ms_ret (me_tup (ma_cons me_str (ma_cons (me_var 4 (pv 4)) (ma_cons (me_var 3 (pv 3)) ma_nil))))))))))))))
/-! _law_rows: 0 _law_state_here, 1 _law_shape, 2 _law_depth, 3 _law_room, 4 _law_rows_here, 5 _law_left, 6 _law_turn, 7 _law_slot, 8 _law_cell, 9 _law_word, 10 _law_yes, 11 _law_no -/
def b__law_rows (K : PySem.W.Frag) (rec : SpD) (W : XW) : SM :=
  (mSeq (mAsg (mLst mNil) (gNm 4)) (mSeq (mAsg (mVar 3) (gNm 5)) (mSeq (mFor (iRange1 (mCons (mOp vAdd (mC (.int 1)) (mCall (sp__law_draw K) W (mCons (mVar 0) (mCons (mC (.int 4)) mNil)))) mNil)) (gNm 6)
    (mIf (mAnd (mB (mOp vGe (mVar 5) (mC (.int 2)))) (mAnd (mB (mOp vLt (mVar 2) (mC (.int 4)))) (mB (mOp vEq (mCall (sp__law_draw K) W (mCons (mVar 0) (mCons (mC (.int 3)) mNil))) (mC (.int 0))))))
    (mSeq (mAsg (mOp vIx (mOp vIx (mVar 1) (mC (.str "slots"))) (mCall (sp__law_draw K) W (mCons (mVar 0) (mCons (mCB vLen (mCons (mOp vIx (mVar 1) (mC (.str "slots"))) mNil)) mNil)))) (gNm 7)) (mSeq (mAsg (mOp vIx (mOp vIx (mVar 1) (mC (.str "cells"))) (mCall (sp__law_draw K) W (mCons (mVar 0) (mCons (mCB vLen (mCons (mOp vIx (mVar 1) (mC (.str "cells"))) mNil)) mNil)))) (gNm 8)) (mSeq (mAsg (mOp vIx (mOp vIx (mVar 1) (mC (.str "words"))) (mCall (sp__law_draw K) W (mCons (mVar 0) (mCons (mCB vLen (mCons (mOp vIx (mVar 1) (mC (.str "words"))) mNil)) mNil)))) (gNm 9)) (mSeq (mDrop (mMet okL rApp (mVar 4) (mCons (mTup (mCons (mC (.str "read")) (mCons (mVar 8) (mCons (mVar 7) mNil)))) mNil))) (mSeq (mAsg (mCall rec W (mCons (mVar 0) (mCons (mVar 1) (mCons (mOp vAdd (mVar 2) (mC (.int 1))) (mCons (mOp vFdiv (mOp vSub (mVar 5) (mC (.int 2))) (mC (.int 2))) mNil))))) (gNm 10)) (mSeq (mAsg (mCall rec W (mCons (mVar 0) (mCons (mVar 1) (mCons (mOp vAdd (mVar 2) (mC (.int 1))) (mCons (mOp vFdiv (mOp vSub (mVar 5) (mC (.int 2))) (mC (.int 2))) mNil))))) (gNm 11)) (mSeq (mDrop (mMet okL rApp (mVar 4) (mCons (mTup (mCons (mC (.str "if")) (mCons (mVar 7) (mCons (mVar 9) (mCons (mVar 10) (mCons (mVar 11) mNil)))))) mNil))) (mAsg (mOp vSub (mOp vSub (mOp vSub (mVar 5) (mC (.int 2))) (mCall (sp__law_many K 6) W (mCons (mVar 10) mNil))) (mCall (sp__law_many K 6) W (mCons (mVar 11) mNil))) (gNm 5)))))))))
    (mIf (mB (mOp vGe (mVar 5) (mC (.int 1))))
    (mSeq (mDrop (mMet okL rApp (mVar 4) (mCons (mCall (sp__law_row K) W (mCons (mVar 0) (mCons (mVar 1) mNil))) mNil))) (mAsg (mOp vSub (mVar 5) (mC (.int 1))) (gNm 5)))
    mNx))) (mRet (mCB vTuple (mCons (mVar 4) mNil))))))
theorem sc__law_rows : FnScope ["_law_state_here", "_law_shape", "_law_depth", "_law_room", "_law_rows_here", "_law_left", "_law_turn", "_law_slot", "_law_cell", "_law_word", "_law_yes", "_law_no"] ["_law_state_here", "_law_shape", "_law_depth", "_law_room"] (defScope st__law_rows) := ⟨rfl, rfl, rfl, by decide +kernel, rfl, by decide +kernel, by decide +kernel⟩
def sp__law_rows (K : PySem.W.Frag) : Nat → SpD
  | 0 => fun _ _ _ _ => False
  | n + 1 => spB 4 8 (b__law_rows K (sp__law_rows K n))
theorem ok__law_rows (T : Tz fac fns sups PG_.main.file exns K mg) : ∀ n, Fd PG_ w K mg base (10 + n) (He.ga K "_law_rows") (sp__law_rows K n) := by
  obtain ⟨fd, F⟩ := T.df 48 (d := df__law_rows)
  have bi : Binds K fd ["_law_state_here", "_law_shape", "_law_depth", "_law_room"] [] := FunD.bindsN F fun _ _ _ _ _ _ us hl => match us, hl with | [_, _, _, _], _ => rfl
  intro n
  induction n with
  | zero => exact fd_no bi F.kp
  | succ n RC =>
  refine ok_def (k := 10 + n) F sc__law_rows bi rfl rfl fun cdv A outer s H E hr X eX W tk po => ?_
  subst eX
  unfold b__law_rows
  exact (mss_cons (ms_set (i := 4) (me_lst ma_nil) fun h => ps_set sc__law_rows.nd rfl (by first | exact .inl rfl | exact .inr rfl) h)
    (mss_cons (ms_set (i := 5) (me_var 3 (pv 3)) fun h => ps_set sc__law_rows.nd rfl (by first | exact .inl rfl | exact .inr rfl) h)
    (mss_cons (ms_for po rfl (mi_range1 (ma_cons (me_op od_add me_int (me_fn (ok__law_draw T) (hr.mono (by omega)) tk (T.glo 60) (ma_cons (me_var 0 (pv 0)) (ma_cons me_int ma_nil)))) ma_nil) fun h => pi_range1 rfl (T.free 44) h) (mg_name (pg_name sc__law_rows.nd rfl (by first | exact .inl rfl | exact .inr rfl)))
    (mss_one (ms_if (MW.mt (mw_and (mt_cmp od_ge (me_var 5 (pv 5)) me_int) (mw_and (mt_cmp od_lt (me_var 2 (pv 2)) me_int) (mw_and1 (mt_cmp (od_eq (hu64 hr)) (me_fn (ok__law_draw T) (hr.mono (by omega)) tk (T.glo 60) (ma_cons (me_var 0 (pv 0)) (ma_cons me_int ma_nil))) me_int)))))
    (mss_cons (ms_set (i := 7) (me_ix (hu1 hr) (me_ix (hu1 hr) (me_var 1 (pv 1)) me_str) (me_fn (ok__law_draw T) (hr.mono (by omega)) tk (T.glo 60) (ma_cons (me_var 0 (pv 0)) (ma_cons (me_callB cd_len (ma_cons (me_ix (hu1 hr) (me_var 1 (pv 1)) me_str) ma_nil) fun h1 h2 => pe_callB h1 rfl (T.free 13) boot_len h2) ma_nil)))) fun h => ps_set sc__law_rows.nd rfl (by first | exact .inl rfl | exact .inr rfl) h)
    (mss_cons (ms_set (i := 8) (me_ix (hu1 hr) (me_ix (hu1 hr) (me_var 1 (pv 1)) me_str) (me_fn (ok__law_draw T) (hr.mono (by omega)) tk (T.glo 60) (ma_cons (me_var 0 (pv 0)) (ma_cons (me_callB cd_len (ma_cons (me_ix (hu1 hr) (me_var 1 (pv 1)) me_str) ma_nil) fun h1 h2 => pe_callB h1 rfl (T.free 13) boot_len h2) ma_nil)))) fun h => ps_set sc__law_rows.nd rfl (by first | exact .inl rfl | exact .inr rfl) h)
    (mss_cons (ms_set (i := 9) (me_ix (hu1 hr) (me_ix (hu1 hr) (me_var 1 (pv 1)) me_str) (me_fn (ok__law_draw T) (hr.mono (by omega)) tk (T.glo 60) (ma_cons (me_var 0 (pv 0)) (ma_cons (me_callB cd_len (ma_cons (me_ix (hu1 hr) (me_var 1 (pv 1)) me_str) ma_nil) fun h1 h2 => pe_callB h1 rfl (T.free 13) boot_len h2) ma_nil)))) fun h => ps_set sc__law_rows.nd rfl (by first | exact .inl rfl | exact .inr rfl) h)
    (mss_cons (ms_expr (me_append (me_var 4 (pv 4)) (ma_cons (me_tup (ma_cons me_str (ma_cons (me_var 8 (pv 8)) (ma_cons (me_var 7 (pv 7)) ma_nil)))) ma_nil)))
    (mss_cons (ms_set (i := 10) (me_fn RC (hr.mono (by omega)) tk (T.glo 62) (ma_cons (me_var 0 (pv 0)) (ma_cons (me_var 1 (pv 1)) (ma_cons (me_op od_add (me_var 2 (pv 2)) me_int) (ma_cons (me_op od_fdiv (me_op od_sub (me_var 5 (pv 5)) me_int) me_int) ma_nil))))) fun h => ps_set sc__law_rows.nd rfl (by first | exact .inl rfl | exact .inr rfl) h)
    (mss_cons (ms_set (i := 11) (me_fn RC (hr.mono (by omega)) tk (T.glo 62) (ma_cons (me_var 0 (pv 0)) (ma_cons (me_var 1 (pv 1)) (ma_cons (me_op od_add (me_var 2 (pv 2)) me_int) (ma_cons (me_op od_fdiv (me_op od_sub (me_var 5 (pv 5)) me_int) me_int) ma_nil))))) fun h => ps_set sc__law_rows.nd rfl (by first | exact .inl rfl | exact .inr rfl) h)
    (mss_cons (ms_expr (me_append (me_var 4 (pv 4)) (ma_cons (me_tup (ma_cons me_str (ma_cons (me_var 7 (pv 7)) (ma_cons (me_var 9 (pv 9)) (ma_cons (me_var 10 (pv 10)) (ma_cons (me_var 11 (pv 11)) ma_nil)))))) ma_nil)))
    (mss_one (ms_set (i := 5) (me_op od_sub (me_op od_sub (me_op od_sub (me_var 5 (pv 5)) me_int) (me_fn (ok__law_many T 6) (hr.mono (by omega)) tk (T.glo 61) (ma_cons (me_var 10 (pv 10)) ma_nil))) (me_fn (ok__law_many T 6) (hr.mono (by omega)) tk (T.glo 61) (ma_cons (me_var 11 (pv 11)) ma_nil))) fun h => ps_set sc__law_rows.nd rfl (by first | exact .inl rfl | exact .inr rfl) h)))))))))
    (mss_one (ms_if (mt_cmp od_ge (me_var 5 (pv 5)) me_int)
    (mss_cons (ms_expr (me_append (me_var 4 (pv 4)) (ma_cons (me_fn (ok__law_row T) (hr.mono (by omega)) tk (T.glo 63) (ma_cons (me_var 0 (pv 0)) (ma_cons (me_var 1 (pv 1)) ma_nil))) ma_nil)))
    (mss_one (ms_set (i := 5) (me_op od_sub (me_var 5 (pv 5)) me_int) fun h => ps_set sc__law_rows.nd rfl (by first | exact .inl rfl | exact .inr rfl) h)))
    mss_nil)))) (fun h1 h2 h3 => ps_for po rfl h1 h2 h3))
    (mss_one (ms_ret (me_callT cd_tuple (ma_cons (me_var 4 (pv 4)) ma_nil) fun h1 h2 => pe_callTy h1 rfl (T.free 14) boot_tuple h2))))))
/-! _law_parts: 0 _law_state_here, 1 _law_sizes_here, 2 _law_peeks, 3 _law_writes, 4 _law_many_words, 5 _law_many_sources, 6 _law_many_derived, 7 _law_many_effects, 8 _law_words_here, 9 _law_names_here, 10 _law_slots, 11 _law_sources, 12 _law_shape, 13 _law_derived, 14 _law_k, 15 _law_name, 16 _law_rows_here, 17 _law_effects -/
def b__law_parts (K : PySem.W.Frag) (W : XW) : SM :=
  (mSeq (mAsg (mOp vAdd (mC (.int 2)) (mCall (sp__law_draw K) W (mCons (mVar 0) (mCons (mOp vIx (mVar 1) (mC (.int 0))) mNil)))) (gNm 4)) (mSeq (mAsg (mOp vAdd (mC (.int 1)) (mCall (sp__law_draw K) W (mCons (mVar 0) (mCons (mOp vIx (mVar 1) (mC (.int 1))) mNil)))) (gNm 5)) (mSeq (mAsg (mCB vMax (mCons (mCall (sp__law_draw K) W (mCons (mVar 0) (mCons (mOp vAdd (mOp vIx (mVar 1) (mC (.int 2))) (mC (.int 1))) mNil))) (mCons (mCall (sp__law_draw K) W (mCons (mVar 0) (mCons (mOp vAdd (mOp vIx (mVar 1) (mC (.int 2))) (mC (.int 1))) mNil))) mNil))) (gNm 6)) (mSeq (mAsg (mCB vMax (mCons (mCall (sp__law_draw K) W (mCons (mVar 0) (mCons (mOp vAdd (mOp vIx (mVar 1) (mC (.int 3))) (mC (.int 1))) mNil))) (mCons (mCall (sp__law_draw K) W (mCons (mVar 0) (mCons (mOp vAdd (mOp vIx (mVar 1) (mC (.int 3))) (mC (.int 1))) mNil))) mNil))) (gNm 7)) (mSeq (mAsg (mCB vTuple (mCons (mCall (sp__law_names K) W (mCons (mVar 0) (mCons (mVar 4) mNil))) mNil)) (gNm 8)) (mSeq (mAsg (mCall (sp__law_names K) W (mCons (mVar 0) (mCons (mOp vAdd (mOp vAdd (mVar 5) (mVar 6)) (mVar 7)) mNil))) (gNm 9)) (mSeq (mIf (mAnd (mB (mOp vEq (mCall (sp__law_draw K) W (mCons (mVar 0) (mCons (mC (.int 4)) mNil))) (mC (.int 0)))) (mB (mOp vNotIn (mOp vIx (mVar 9) (mC (.int 0))) (mVar 8))))
    (mAsg (mOp vAdd (mSl (mVar 8) (mP (mC (.int 1))) mNoP) (mTup (mCons (mOp vIx (mVar 9) (mC (.int 0))) mNil))) (gNm 8))
    mNx) (mSeq (mAsg (mOp vAdd (mCall (sp__law_names K) W (mCons (mVar 0) (mCons (mC (.int 2)) mNil))) (mLst (mCons (mOp vIx (mVar 9) (mC (.int 0))) mNil))) (gNm 10)) (mSeq (mAsg (mCB vTupN (mCons (mSl (mVar 9) mNoP (mP (mVar 5))) mNil)) (gNm 11)) (mSeq (mAsg (mDisp [((mC (.str "kind")), (mC (.str "derived"))), ((mC (.str "cells")), (mCB vList (mCons (mVar 11) mNil))), ((mC (.str "sources")), (mVar 11)), ((mC (.str "slots")), (mVar 10)), ((mC (.str "words")), (mVar 8))]) (gNm 12)) (mSeq (mAsg (mC (.bl false)) (gIx (mVar 12) (mC (.str "peeks")))) (mSeq (mAsg (mC (.bl false)) (gIx (mVar 12) (mC (.str "writes")))) (mSeq (mAsg (mLst mNil) (gNm 13)) (mSeq (mFor (iRange1 (mCons (mVar 6) mNil)) (gNm 14)
    (mSeq (mAsg (mOp vIx (mVar 9) (mOp vAdd (mVar 5) (mVar 14))) (gNm 15)) (mSeq (mAsg (mCall (sp__law_rows K 5) W (mCons (mVar 0) (mCons (mVar 12) (mCons (mC (.int 1)) (mCons (mOp vIx (mVar 1) (mC (.int 4))) mNil))))) (gNm 16)) (mSeq (mIf (mB (mOp vGt (mCall (sp__law_draw K) W (mCons (mVar 0) (mCons (mC (.int 4)) mNil))) (mC (.int 0))))
    (mAsg (mOp vAdd (mVar 16) (mTup (mCons (mTup (mCons (mC (.str "give")) (mCons (mOp vIx (mVar 10) (mCall (sp__law_draw K) W (mCons (mVar 0) (mCons (mC (.int 3)) mNil)))) mNil))) mNil))) (gNm 16))
    mNx) (mSeq (mDrop (mMet okL rApp (mVar 13) (mCons (mTup (mCons (mVar 15) (mCons (mVar 16) mNil))) mNil))) (mAsg (mOp vAdd (mOp vIx (mVar 12) (mC (.str "cells"))) (mLst (mCons (mVar 15) mNil))) (gIx (mVar 12) (mC (.str "cells"))))))))) (mSeq (mAsg (mC (.str "effects")) (gIx (mVar 12) (mC (.str "kind")))) (mSeq (mAsg (mVar 2) (gIx (mVar 12) (mC (.str "peeks")))) (mSeq (mAsg (mVar 3) (gIx (mVar 12) (mC (.str "writes")))) (mSeq (mAsg (mLst mNil) (gNm 17)) (mSeq (mFor (iRange1 (mCons (mVar 7) mNil)) (gNm 14)
    (mSeq (mAsg (mCall (sp__law_rows K 5) W (mCons (mVar 0) (mCons (mVar 12) (mCons (mC (.int 1)) (mCons (mOp vIx (mVar 1) (mC (.int 4))) mNil))))) (gNm 16)) (mSeq (mIf (mB (mOp vGt (mCall (sp__law_draw K) W (mCons (mVar 0) (mCons (mC (.int 4)) mNil))) (mC (.int 0))))
    (mAsg (mOp vAdd (mVar 16) (mTup (mCons (mTup (mCons (mC (.str "say")) (mCons (mOp vIx (mVar 10) (mCall (sp__law_draw K) W (mCons (mVar 0) (mCons (mC (.int 3)) mNil)))) mNil))) mNil))) (gNm 16))
    mNx) (mDrop (mMet okL rApp (mVar 17) (mCons (mTup (mCons (mOp vIx (mVar 9) (mOp vAdd (mOp vAdd (mVar 5) (mVar 6)) (mVar 14))) (mCons (mVar 16) mNil))) mNil)))))) (mRet (mTup (mCons (mVar 8) (mCons (mVar 11) (mCons (mCB vTuple (mCons (mVar 13) mNil)) (mCons (mCB vTuple (mCons (mVar 17) mNil)) mNil)))))))))))))))))))))))))
theorem sc__law_parts : FnScope ["_law_state_here", "_law_sizes_here", "_law_peeks", "_law_writes", "_law_many_words", "_law_many_sources", "_law_many_derived", "_law_many_effects", "_law_words_here", "_law_names_here", "_law_slots", "_law_sources", "_law_shape", "_law_derived", "_law_k", "_law_name", "_law_rows_here", "_law_effects"] ["_law_state_here", "_law_sizes_here", "_law_peeks", "_law_writes"] (defScope st__law_parts) := ⟨rfl, rfl, rfl, by decide +kernel, rfl, by decide +kernel, by decide +kernel⟩
def sp__law_parts (K : PySem.W.Frag) : SpD := spB 4 14 (b__law_parts K)
theorem ok__law_parts (T : Tz fac fns sups PG_.main.file exns K mg) : Fd PG_ w K mg base 17 (He.ga K "_law_parts") (sp__law_parts K) := by
  obtain ⟨fd, F⟩ := T.df 49 (d := df__law_parts)
  have bi : Binds K fd ["_law_state_here", "_law_sizes_here", "_law_peeks", "_law_writes"] [] := FunD.bindsN F fun _ _ _ _ _ _ us hl => match us, hl with | [_, _, _, _], _ => rfl
  refine ok_def (k := 16) F sc__law_parts bi rfl rfl fun cdv A outer s H E hr X eX W tk po => ?_
  subst eX
  unfold b__law_parts
  exact (mss_cons (ms_set (i := 4) (me_op od_add me_int (me_fn (ok__law_draw T) (hr.mono (by omega)) tk (T.glo 60) (ma_cons (me_var 0 (pv 0)) (ma_cons (me_ix (hu1 hr) (me_var 1 (pv 1)) me_int) ma_nil)))) fun h => ps_set sc__law_parts.nd rfl (by first | exact .inl rfl | exact .inr rfl) h)
    (mss_cons (ms_set (i := 5) (me_op od_add me_int (me_fn (ok__law_draw T) (hr.mono (by omega)) tk (T.glo 60) (ma_cons (me_var 0 (pv 0)) (ma_cons (me_ix (hu1 hr) (me_var 1 (pv 1)) me_int) ma_nil)))) fun h => ps_set sc__law_parts.nd rfl (by first | exact .inl rfl | exact .inr rfl) h)
    (mss_cons (ms_set (i := 6) (me_callB (cd_max rfl) (ma_cons (me_fn (ok__law_draw T) (hr.mono (by omega)) tk (T.glo 60) (ma_cons (me_var 0 (pv 0)) (ma_cons (me_op od_add (me_ix (hu1 hr) (me_var 1 (pv 1)) me_int) me_int) ma_nil))) (ma_cons (me_fn (ok__law_draw T) (hr.mono (by omega)) tk (T.glo 60) (ma_cons (me_var 0 (pv 0)) (ma_cons (me_op od_add (me_ix (hu1 hr) (me_var 1 (pv 1)) me_int) me_int) ma_nil))) ma_nil)) fun h1 h2 => pe_callB h1 rfl (T.free 64) boot_max h2) fun h => ps_set sc__law_parts.nd rfl (by first | exact .inl rfl | exact .inr rfl) h)
    (mss_cons (ms_set (i := 7) (me_callB (cd_max rfl) (ma_cons (me_fn (ok__law_draw T) (hr.mono (by omega)) tk (T.glo 60) (ma_cons (me_var 0 (pv 0)) (ma_cons (me_op od_add (me_ix (hu1 hr) (me_var 1 (pv 1)) me_int) me_int) ma_nil))) (ma_cons (me_fn (ok__law_draw T) (hr.mono (by omega)) tk (T.glo 60) (ma_cons (me_var 0 (pv 0)) (ma_cons (me_op od_add (me_ix (hu1 hr) (me_var 1 (pv 1)) me_int) me_int) ma_nil))) ma_nil)) fun h1 h2 => pe_callB h1 rfl (T.free 64) boot_max h2) fun h => ps_set sc__law_parts.nd rfl (by first | exact .inl rfl | exact .inr rfl) h)
    (mss_cons (ms_set (i := 8) (me_callT cd_tuple (ma_cons (me_fn (ok__law_names T) (hr.mono (by omega)) tk (T.glo 65) (ma_cons (me_var 0 (pv 0)) (ma_cons (me_var 4 (pv 4)) ma_nil))) ma_nil) fun h1 h2 => pe_callTy h1 rfl (T.free 14) boot_tuple h2) fun h => ps_set sc__law_parts.nd rfl (by first | exact .inl rfl | exact .inr rfl) h)
    (mss_cons (ms_set (i := 9) (me_fn (ok__law_names T) (hr.mono (by omega)) tk (T.glo 65) (ma_cons (me_var 0 (pv 0)) (ma_cons (me_op od_add (me_op od_add (me_var 5 (pv 5)) (me_var 6 (pv 6))) (me_var 7 (pv 7))) ma_nil))) fun h => ps_set sc__law_parts.nd rfl (by first | exact .inl rfl | exact .inr rfl) h)
    (mss_cons (ms_if (MW.mt (mw_and (mt_cmp (od_eq (hu64 hr)) (me_fn (ok__law_draw T) (hr.mono (by omega)) tk (T.glo 60) (ma_cons (me_var 0 (pv 0)) (ma_cons me_int ma_nil))) me_int) (mw_and1 (mt_cmp (od_notin (hu65 hr)) (me_ix (hu1 hr) (me_var 9 (pv 9)) me_int) (me_var 8 (pv 8))))))
    (mss_one (ms_set (i := 8) (me_op od_add (me_sl (me_var 8 (pv 8)) (mo_some me_int) mo_none) (me_tup (ma_cons (me_ix (hu1 hr) (me_var 9 (pv 9)) me_int) ma_nil))) fun h => ps_set sc__law_parts.nd rfl (by first | exact .inl rfl | exact .inr rfl) h))
    mss_nil)
    (mss_cons (ms_set (i := 10) (me_op od_add (me_fn (ok__law_names T) (hr.mono (by omega)) tk (T.glo 65) (ma_cons (me_var 0 (pv 0)) (ma_cons me_int ma_nil))) (me_lst (ma_cons (me_ix (hu1 hr) (me_var 9 (pv 9)) me_int) ma_nil))) fun h => ps_set sc__law_parts.nd rfl (by first | exact .inl rfl | exact .inr rfl) h)
    (mss_cons (ms_set (i := 11) (me_callT cd_tupN (ma_cons (me_sl (me_var 9 (pv 9)) mo_none (mo_some (me_var 5 (pv 5)))) ma_nil) fun h1 h2 => pe_callTy h1 rfl (T.free 14) boot_tuple h2) fun h => ps_set sc__law_parts.nd rfl (by first | exact .inl rfl | exact .inr rfl) h)
    (mss_cons (ms_set (i := 12) (me_disp (mps_cons me_str me_str (mps_cons me_str (me_callT cd_list (ma_cons (me_var 11 (pv 11)) ma_nil) fun h1 h2 => pe_callTy h1 rfl (T.free 35) boot_list h2) (mps_cons me_str (me_var 11 (pv 11)) (mps_cons me_str (me_var 10 (pv 10)) (mps_cons me_str (me_var 8 (pv 8)) mps_nil)))))) fun h => ps_set sc__law_parts.nd rfl (by first | exact .inl rfl | exact .inr rfl) h)
    (mss_cons (ms_asg me_bl (mg_sub (hu1 hr) (me_var 12 (pv 12)) me_str))
    (mss_cons (ms_asg me_bl (mg_sub (hu1 hr) (me_var 12 (pv 12)) me_str))
    (mss_cons (ms_set (i := 13) (me_lst ma_nil) fun h => ps_set sc__law_parts.nd rfl (by first | exact .inl rfl | exact .inr rfl) h)
    (mss_cons (ms_for po rfl (mi_range1 (ma_cons (me_var 6 (pv 6)) ma_nil) fun h => pi_range1 rfl (T.free 44) h) (mg_name (pg_name sc__law_parts.nd rfl (by first | exact .inl rfl | exact .inr rfl)))
    (mss_cons (ms_set (i := 15) (me_ix (hu1 hr) (me_var 9 (pv 9)) (me_op od_add (me_var 5 (pv 5)) (me_var 14 (pv 14)))) fun h => ps_set sc__law_parts.nd rfl (by first | exact .inl rfl | exact .inr rfl) h)
    (mss_cons (ms_set (i := 16) (me_fn (ok__law_rows T 5) (hr.mono (by omega)) tk (T.glo 62) (ma_cons (me_var 0 (pv 0)) (ma_cons (me_var 12 (pv 12)) (ma_cons me_int (ma_cons (me_ix (hu1 hr) (me_var 1 (pv 1)) me_int) ma_nil))))) fun h => ps_set sc__law_parts.nd rfl (by first | exact .inl rfl | exact .inr rfl) h)
    (mss_cons (ms_if (mt_cmp od_gt (me_fn (ok__law_draw T) (hr.mono (by omega)) tk (T.glo 60) (ma_cons (me_var 0 (pv 0)) (ma_cons me_int ma_nil))) me_int)
    (mss_one (ms_set (i := 16) (me_op od_add (me_var 16 (pv 16)) (me_tup (ma_cons (me_tup (ma_cons me_str (ma_cons (me_ix (hu1 hr) (me_var 10 (pv 10)) (me_fn (ok__law_draw T) (hr.mono (by omega)) tk (T.glo 60) (ma_cons (me_var 0 (pv 0)) (ma_cons me_int ma_nil)))) ma_nil))) ma_nil))) fun h => ps_set sc__law_parts.nd rfl (by first | exact .inl rfl | exact .inr rfl) h))
    mss_nil)
    (mss_cons (ms_expr (me_append (me_var 13 (pv 13)) (ma_cons (me_tup (ma_cons (me_var 15 (pv 15)) (ma_cons (me_var 16 (pv 16)) ma_nil))) ma_nil)))
    (mss_one (ms_asg (me_op od_add (me_ix (hu1 hr) (me_var 12 (pv 12)) me_str) (me_lst (ma_cons (me_var 15 (pv 15)) ma_nil))) (mg_sub (hu1 hr) (me_var 12 (pv 12)) me_str))))))) (fun h1 h2 h3 => ps_for po rfl h1 h2 h3))
    (mss_cons (ms_asg me_str (mg_sub (hu1 hr) (me_var 12 (pv 12)) me_str))
    (mss_cons (ms_asg (me_var 2 (pv 2)) (mg_sub (hu1 hr) (me_var 12 (pv 12)) me_str))
    (mss_cons (ms_asg (me_var 3 (pv 3)) (mg_sub (hu1 hr) (me_var 12 (pv 12)) me_str))
    (mss_cons (ms_set (i := 17) (me_lst ma_nil) fun h => ps_set sc__law_parts.nd rfl (by first | exact .inl rfl | exact .inr rfl) h)
    (mss_cons (ms_for po rfl (mi_range1 (ma_cons (me_var 7 (pv 7)) ma_nil) fun h => pi_range1 rfl (T.free 44) h) (mg_name (pg_name sc__law_parts.nd rfl (by first | exact .inl rfl | exact .inr rfl)))
    (mss_cons (ms_set (i := 16) (me_fn (ok__law_rows T 5) (hr.mono (by omega)) tk (T.glo 62) (ma_cons (me_var 0 (pv 0)) (ma_cons (me_var 12 (pv 12)) (ma_cons me_int (ma_cons (me_ix (hu1 hr) (me_var 1 (pv 1)) me_int) ma_nil))))) fun h => ps_set sc__law_parts.nd rfl (by first | exact .inl rfl | exact .inr rfl) h)
    (mss_cons (ms_if (mt_cmp od_gt (me_fn (ok__law_draw T) (hr.mono (by omega)) tk (T.glo 60) (ma_cons (me_var 0 (pv 0)) (ma_cons me_int ma_nil))) me_int)
    (mss_one (ms_set (i := 16) (me_op od_add (me_var 16 (pv 16)) (me_tup (ma_cons (me_tup (ma_cons me_str (ma_cons (me_ix (hu1 hr) (me_var 10 (pv 10)) (me_fn (ok__law_draw T) (hr.mono (by omega)) tk (T.glo 60) (ma_cons (me_var 0 (pv 0)) (ma_cons me_int ma_nil)))) ma_nil))) ma_nil))) fun h => ps_set sc__law_parts.nd rfl (by first | exact .inl rfl | exact .inr rfl) h))
    mss_nil)
    (mss_one (ms_expr (me_append (me_var 17 (pv 17)) (ma_cons (me_tup (ma_cons (me_ix (hu1 hr) (me_var 9 (pv 9)) (me_op od_add (me_op od_add (me_var 5 (pv 5)) (me_var 6 (pv 6))) (me_var 14 (pv 14)))) (ma_cons (me_var 16 (pv 16)) ma_nil))) ma_nil)))))) (fun h1 h2 h3 => ps_for po rfl h1 h2 h3))
    (mss_one (ms_ret (me_tup (ma_cons (me_var 8 (pv 8)) (ma_cons (me_var 11 (pv 11)) (ma_cons (me_callT cd_tuple (ma_cons (me_var 13 (pv 13)) ma_nil) fun h1 h2 => pe_callTy h1 rfl (T.free 14) boot_tuple h2) (ma_cons (me_callT cd_tuple (ma_cons (me_var 17 (pv 17)) ma_nil) fun h1 h2 => pe_callTy h1 rfl (T.free 14) boot_tuple h2) ma_nil))))))))))))))))))))))))))
/-! _law_sizes: 0 _law_state_here -/
def b__law_sizes (K : PySem.W.Frag) (W : XW) : SM :=
  (mSeq (mIf (mB (mOp vEq (mCall (sp__law_draw K) W (mCons (mVar 0) (mCons (mC (.int 4)) mNil))) (mC (.int 0))))
    (mRet (mLst (mCons (mC (.int 3)) (mCons (mC (.int 4)) (mCons (mC (.int 6)) (mCons (mC (.int 4)) (mCons (mC (.int 4)) mNil)))))))
    mNx) (mRet (mLst (mCons (mC (.int 2)) (mCons (mC (.int 3)) (mCons (mC (.int 3)) (mCons (mC (.int 3)) (mCons (mC (.int 7)) mNil))))))))
theorem sc__law_sizes : FnScope ["_law_state_here"] ["_law_state_here"] (defScope st__law_sizes) := ⟨rfl, rfl, rfl, by decide +kernel, rfl, by decide +kernel, by decide +kernel⟩
def sp__law_sizes (K : PySem.W.Frag) : SpD := spB 1 0 (b__law_sizes K)
theorem ok__law_sizes (T : Tz fac fns sups PG_.main.file exns K mg) : Fd PG_ w K mg base 4 (He.ga K "_law_sizes") (sp__law_sizes K) := by
  obtain ⟨fd, F⟩ := T.df 50 (d := df__law_sizes)
  have bi : Binds K fd ["_law_state_here"] [] := FunD.bindsN F fun _ _ _ _ _ _ us hl => match us, hl with | [_], _ => rfl
  refine ok_def (k := 3) F sc__law_sizes bi rfl rfl fun cdv A outer s H E hr X eX W tk po => ?_
  subst eX
  unfold b__law_sizes
  exact (mss_cons (ms_if (mt_cmp (od_eq (hu64 hr)) (me_fn (ok__law_draw T) (hr.mono (by omega)) tk (T.glo 60) (ma_cons (me_var 0 (pv 0)) (ma_cons me_int ma_nil))) me_int)
    (mss_one (ms_ret (me_lst (ma_cons me_int (ma_cons me_int (ma_cons me_int (ma_cons me_int (ma_cons me_int ma_nil))))))))
    mss_nil)
    (mss_one (ms_ret (me_lst (ma_cons me_int (ma_cons me_int (ma_cons me_int (ma_cons me_int (ma_cons me_int ma_nil)))))))))
/-! _law_bodied: 0 _law_state_here, 1 _law_peeks, 2 _law_writes, 3 _law_turn, 4 _law_parts_here, 5 _law_rows_here, 6 _law_letters, 7 _law_fresh, 8 _law_k -/
def b__law_bodied (K : PySem.W.Frag) (W : XW) : SM :=
  (mSeq (mFor (iRange1 (mCons (mC (.int 3)) mNil)) (gNm 3)
    (mSeq (mAsg (mCall (sp__law_parts K) W (mCons (mVar 0) (mCons (mCall (sp__law_sizes K) W (mCons (mVar 0) mNil)) (mCons (mVar 1) (mCons (mVar 2) mNil))))) (gNm 4)) (mSeq (mIf (mAnd (mB (mOp vEq (mCB vLen (mCons (mOp vIx (mVar 4) (mC (.int 1))) mNil)) (mC (.int 4)))) (mB (mOp vGt (mCB vLen (mCons (mOp vIx (mVar 4) (mC (.int 0))) mNil)) (mC (.int 2)))))
    (mAsg (mCall (sp__law_parts K) W (mCons (mVar 0) (mCons (mLst (mCons (mC (.int 2)) (mCons (mC (.int 3)) (mCons (mC (.int 3)) (mCons (mC (.int 3)) (mCons (mC (.int 7)) mNil)))))) (mCons (mVar 1) (mCons (mVar 2) mNil))))) (gNm 4))
    mNx) (mIf (mB (mOp vGt (mCB vLen (mCons (mOp vAdd (mOp vIx (mVar 4) (mC (.int 2))) (mOp vIx (mVar 4) (mC (.int 3)))) mNil)) (mC (.int 0))))
    (mRet (mVar 4))
    mNx)))) (mSeq (mAsg (mTup (mCons (mTup (mCons (mC (.str "read")) (mCons (mOp vIx (mOp vIx (mVar 4) (mC (.int 1))) (mC (.int 0))) (mCons (mC (.str "x")) mNil)))) (mCons (mTup (mCons (mC (.str "give")) (mCons (mC (.str "x")) mNil))) mNil))) (gNm 5)) (mSeq (mAsg (mC (.str "abcdefghijklmnopqrstuvwxyz")) (gNm 6)) (mSeq (mAsg (mLc (iRange1 (mCons (mC (.int 26)) mNil)) (gNm 8) (mB (mOp vNotIn (mOp vIx (mVar 6) (mVar 8)) (mOp vIx (mVar 4) (mC (.int 1))))) (mOp vIx (mVar 6) (mVar 8)) [8]) (gNm 7)) (mRet (mOp vAdd (mSl (mVar 4) mNoP (mP (mC (.int 2)))) (mTup (mCons (mTup (mCons (mTup (mCons (mOp vIx (mVar 7) (mC (.int 0))) (mCons (mVar 5) mNil))) mNil)) (mCons (mTup mNil) mNil)))))))))
theorem sc__law_bodied : FnScope ["_law_state_here", "_law_peeks", "_law_writes", "_law_turn", "_law_parts_here", "_law_rows_here", "_law_letters", "_law_fresh", "_law_k"] ["_law_state_here", "_law_peeks", "_law_writes"] (defScope st__law_bodied) := ⟨rfl, rfl, rfl, by decide +kernel, rfl, by decide +kernel, by decide +kernel⟩
def sp__law_bodied (K : PySem.W.Frag) : SpD := spB 3 6 (b__law_bodied K)
theorem ok__law_bodied (T : Tz fac fns sups PG_.main.file exns K mg) : Fd PG_ w K mg base 19 (He.ga K "_law_bodied") (sp__law_bodied K) := by
  obtain ⟨fd, F⟩ := T.df 51 (d := df__law_bodied)
  have bi : Binds K fd ["_law_state_here", "_law_peeks", "_law_writes"] [] := FunD.bindsN F fun _ _ _ _ _ _ us hl => match us, hl with | [_, _, _], _ => rfl
  refine ok_def (k := 18) F sc__law_bodied bi rfl rfl fun cdv A outer s H E hr X eX W tk po => ?_
  subst eX
  unfold b__law_bodied
  exact (mss_cons (ms_for po rfl (mi_range1 (ma_cons me_int ma_nil) fun h => pi_range1 rfl (T.free 44) h) (mg_name (pg_name sc__law_bodied.nd rfl (by first | exact .inl rfl | exact .inr rfl)))
    (mss_cons (ms_set (i := 4) (me_fn (ok__law_parts T) (hr.mono (by omega)) tk (T.glo 67) (ma_cons (me_var 0 (pv 0)) (ma_cons (me_fn (ok__law_sizes T) (hr.mono (by omega)) tk (T.glo 66) (ma_cons (me_var 0 (pv 0)) ma_nil)) (ma_cons (me_var 1 (pv 1)) (ma_cons (me_var 2 (pv 2)) ma_nil))))) fun h => ps_set sc__law_bodied.nd rfl (by first | exact .inl rfl | exact .inr rfl) h)
    (mss_cons (ms_if (MW.mt (mw_and (mt_cmp (od_eq (hu64 hr)) (me_callB cd_len (ma_cons (me_ix (hu1 hr) (me_var 4 (pv 4)) me_int) ma_nil) fun h1 h2 => pe_callB h1 rfl (T.free 13) boot_len h2) me_int) (mw_and1 (mt_cmp od_gt (me_callB cd_len (ma_cons (me_ix (hu1 hr) (me_var 4 (pv 4)) me_int) ma_nil) fun h1 h2 => pe_callB h1 rfl (T.free 13) boot_len h2) me_int))))
    (mss_one (ms_set (i := 4) (me_fn (ok__law_parts T) (hr.mono (by omega)) tk (T.glo 67) (ma_cons (me_var 0 (pv 0)) (ma_cons (me_lst (ma_cons me_int (ma_cons me_int (ma_cons me_int (ma_cons me_int (ma_cons me_int ma_nil)))))) (ma_cons (me_var 1 (pv 1)) (ma_cons (me_var 2 (pv 2)) ma_nil))))) fun h => ps_set sc__law_bodied.nd rfl (by first | exact .inl rfl | exact .inr rfl) h))
    mss_nil)
    (mss_one (ms_if (mt_cmp od_gt (me_callB cd_len (ma_cons (me_op od_add (me_ix (hu1 hr) (me_var 4 (pv 4)) me_int) (me_ix (hu1 hr) (me_var 4 (pv 4)) me_int)) ma_nil) fun h1 h2 => pe_callB h1 rfl (T.free 13) boot_len h2) me_int)
    (mss_one (ms_ret (me_var 4 (pv 4))))
    mss_nil)))) (fun h1 h2 h3 => ps_for po rfl h1 h2 h3))
    (mss_cons (ms_set (i := 5) (me_tup (ma_cons (me_tup (ma_cons me_str (ma_cons (me_ix (hu1 hr) (me_ix (hu1 hr) (me_var 4 (pv 4)) me_int) me_int) (ma_cons me_str ma_nil)))) (ma_cons (me_tup (ma_cons me_str (ma_cons me_str ma_nil))) ma_nil))) fun h => ps_set sc__law_bodied.nd rfl (by first | exact .inl rfl | exact .inr rfl) h)
    (mss_cons (ms_set (i := 6) me_str fun h => ps_set sc__law_bodied.nd rfl (by first | exact .inl rfl | exact .inr rfl) h)
    (mss_cons (ms_setLc (i := 7) rfl sc__law_bodied.nd (mi_range1 (ma_cons me_int ma_nil) fun h => pi_range1 rfl (T.free 44) h) (own := [("_law_k", 8)]) (blkOk_by (by kernel_rfl)) bt_nm (fun _ _ _ _ _ => pg_name sc__law_bodied.nd rfl (by first | exact .inl rfl | exact .inr rfl)) (fun _ _ _ _ _ => mts_one (mt_cmp (od_notin (hu65 hr)) (me_ix (hu1 hr) (me_var 6 (pv 6)) (me_var 8 (pv 8))) (me_ix (hu1 hr) (me_var 4 (pv 4)) me_int))) (fun _ _ _ _ _ => (me_ix (hu1 hr) (me_var 6 (pv 6)) (me_var 8 (pv 8)))))
    (mss_one (ms_ret (me_op od_add (me_sl (me_var 4 (pv 4)) mo_none (mo_some me_int)) (me_tup (ma_cons (me_tup (ma_cons (me_tup (ma_cons (me_ix (hu1 hr) (me_var 7 (pv 7)) me_int) (ma_cons (me_var 5 (pv 5)) ma_nil))) ma_nil)) (ma_cons (me_tup ma_nil) ma_nil))))))))))
/-! _law_body: 0 _law_state_here, 1 _law_parts_here, 2 _law_bodies -/
def b__law_body (K : PySem.W.Frag) (W : XW) : SM :=
  (mSeq (mAsg (mOp vAdd (mOp vIx (mVar 1) (mC (.int 2))) (mOp vIx (mVar 1) (mC (.int 3)))) (gNm 2)) (mRet (mOp vIx (mOp vIx (mVar 2) (mCall (sp__law_draw K) W (mCons (mVar 0) (mCons (mCB vLen (mCons (mVar 2) mNil)) mNil)))) (mC (.int 0)))))
theorem sc__law_body : FnScope ["_law_state_here", "_law_parts_here", "_law_bodies"] ["_law_state_here", "_law_parts_here"] (defScope st__law_body) := ⟨rfl, rfl, rfl, by decide +kernel, rfl, by decide +kernel, by decide +kernel⟩
def sp__law_body (K : PySem.W.Frag) : SpD := spB 2 1 (b__law_body K)
theorem ok__law_body (T : Tz fac fns sups PG_.main.file exns K mg) : Fd PG_ w K mg base 4 (He.ga K "_law_body") (sp__law_body K) := by
  obtain ⟨fd, F⟩ := T.df 52 (d := df__law_body)
  have bi : Binds K fd ["_law_state_here", "_law_parts_here"] [] := FunD.bindsN F fun _ _ _ _ _ _ us hl => match us, hl with | [_, _], _ => rfl
  refine ok_def (k := 3) F sc__law_body bi rfl rfl fun cdv A outer s H E hr X eX W tk po => ?_
  subst eX
  unfold b__law_body
  exact (mss_cons (ms_set (i := 2) (me_op od_add (me_ix (hu1 hr) (me_var 1 (pv 1)) me_int) (me_ix (hu1 hr) (me_var 1 (pv 1)) me_int)) fun h => ps_set sc__law_body.nd rfl (by first | exact .inl rfl | exact .inr rfl) h)
    (mss_one (ms_ret (me_ix (hu1 hr) (me_ix (hu1 hr) (me_var 2 (pv 2)) (me_fn (ok__law_draw T) (hr.mono (by omega)) tk (T.glo 60) (ma_cons (me_var 0 (pv 0)) (ma_cons (me_callB cd_len (ma_cons (me_var 2 (pv 2)) ma_nil) fun h1 h2 => pe_callB h1 rfl (T.free 13) boot_len h2) ma_nil)))) me_int))))
/-! _law_words: 0 _law_state_here, 1 _law_parts_here, 2 _law_source -/
def b__law_words (K : PySem.W.Frag) (W : XW) : SM :=
  (mRet (mCB vTuple (mCons (mLc (iSeq (mOp vIx (mVar 1) (mC (.int 1)))) (gNm 2) mYes (mOp vIx (mOp vIx (mVar 1) (mC (.int 0))) (mCall (sp__law_draw K) WN (mCons (mVar 0) (mCons (mCB vLen (mCons (mOp vIx (mVar 1) (mC (.int 0))) mNil)) mNil)))) [2]) mNil)))
theorem sc__law_words : FnScope ["_law_state_here", "_law_parts_here", "_law_source"] ["_law_state_here", "_law_parts_here"] (defScope st__law_words) := ⟨rfl, rfl, rfl, by decide +kernel, rfl, by decide +kernel, by decide +kernel⟩
def sp__law_words (K : PySem.W.Frag) : SpD := spB 2 1 (b__law_words K)
theorem ok__law_words (T : Tz fac fns sups PG_.main.file exns K mg) : Fd PG_ w K mg base 4 (He.ga K "_law_words") (sp__law_words K) := by
  obtain ⟨fd, F⟩ := T.df 53 (d := df__law_words)
  have bi : Binds K fd ["_law_state_here", "_law_parts_here"] [] := FunD.bindsN F fun _ _ _ _ _ _ us hl => match us, hl with | [_, _], _ => rfl
  refine ok_def (k := 3) F sc__law_words bi rfl rfl fun cdv A outer s H E hr X eX W tk po => ?_
  subst eX
  unfold b__law_words
  exact (mss_one (ms_ret (me_callT cd_tuple (ma_cons (me_lc rfl sc__law_words.nd (mi_seq (me_ix (hu1 hr) (me_var 1 (pv 1)) me_int)) (own := [("_law_source", 2)]) (blkOk_by (by kernel_rfl)) bt_nm (fun _ _ _ _ _ => pg_name sc__law_words.nd rfl (by first | exact .inl rfl | exact .inr rfl)) (fun _ _ _ _ _ => mts_nil) (fun _ _ _ _ _ => (me_ix (hu1 hr) (me_ix (hu1 hr) (me_var 1 (pv 1)) me_int) (me_fn (ok__law_draw T) (hr.mono (by omega)) tk_none (T.glo 60) (ma_cons (me_var 0 (pv 0)) (ma_cons (me_callB cd_len (ma_cons (me_ix (hu1 hr) (me_var 1 (pv 1)) me_int) ma_nil) fun h1 h2 => pe_callB h1 rfl (T.free 13) boot_len h2) ma_nil)))))) ma_nil) fun h1 h2 => pe_callTy h1 rfl (T.free 14) boot_tuple h2)))
/-! _law_program: 0 _law_parts_here -/
def b__law_program (K : PySem.W.Frag) (W : XW) : SM :=
  (mRet (mMake (He.ga K "Program") (sp_ProgramU_initU K) W (mCons (mOp vIx (mVar 0) (mC (.int 0))) (mCons (mOp vIx (mVar 0) (mC (.int 1))) (mCons (mOp vIx (mVar 0) (mC (.int 2))) (mCons (mOp vIx (mVar 0) (mC (.int 3))) mNil))))))
theorem sc__law_program : FnScope ["_law_parts_here"] ["_law_parts_here"] (defScope st__law_program) := ⟨rfl, rfl, rfl, by decide +kernel, rfl, by decide +kernel, by decide +kernel⟩
def sp__law_program (K : PySem.W.Frag) : SpD := spB 1 0 (b__law_program K)
theorem ok__law_program (T : Tz fac fns sups PG_.main.file exns K mg) : Fd PG_ w K mg base 20 (He.ga K "_law_program") (sp__law_program K) := by
  obtain ⟨fd, F⟩ := T.df 54 (d := df__law_program)
  have bi : Binds K fd ["_law_parts_here"] [] := FunD.bindsN F fun _ _ _ _ _ _ us hl => match us, hl with | [_], _ => rfl
  refine ok_def (k := 19) F sc__law_program bi rfl rfl fun cdv A outer s H E hr X eX W tk po => ?_
  subst eX
  unfold b__law_program
  exact (mss_one (ms_ret (me_make (T.mkr 68) (ok_ProgramU_initU T) (hr.mono (by omega)) tk (T.glo 69) (ma_cons (me_ix (hu1 hr) (me_var 0 (pv 0)) me_int) (ma_cons (me_ix (hu1 hr) (me_var 0 (pv 0)) me_int) (ma_cons (me_ix (hu1 hr) (me_var 0 (pv 0)) me_int) (ma_cons (me_ix (hu1 hr) (me_var 0 (pv 0)) me_int) ma_nil)))))))
/-! _law_rows_of_words: 0 _law_parts_here, 1 _law_rows_here, 2 _law_source, 3 _law_longer, 4 _law_row_here, 5 _law_word -/
def b__law_rows_of_words (K : PySem.W.Frag) (W : XW) : SM :=
  (mSeq (mAsg (mLst (mCons (mTup mNil) mNil)) (gNm 1)) (mSeq (mFor (iSeq (mOp vIx (mVar 0) (mC (.int 1)))) (gNm 2)
    (mSeq (mAsg (mLst mNil) (gNm 3)) (mSeq (mFor (iSeq (mVar 1)) (gNm 4)
    (mDrop (mMet okL rExt (mVar 3) (mCons (mLc (iSeq (mOp vIx (mVar 0) (mC (.int 0)))) (gNm 5) mYes (mOp vAdd (mVar 4) (mTup (mCons (mVar 5) mNil))) [5]) mNil)))) (mAsg (mVar 3) (gNm 1))))) (mRet (mVar 1))))
theorem sc__law_rows_of_words : FnScope ["_law_parts_here", "_law_rows_here", "_law_source", "_law_longer", "_law_row_here", "_law_word"] ["_law_parts_here"] (defScope st__law_rows_of_words) := ⟨rfl, rfl, rfl, by decide +kernel, rfl, by decide +kernel, by decide +kernel⟩
def sp__law_rows_of_words (K : PySem.W.Frag) : SpD := spB 1 5 (b__law_rows_of_words K)
theorem ok__law_rows_of_words (T : Tz fac fns sups PG_.main.file exns K mg) : Fd PG_ w K mg base 2 (He.ga K "_law_rows_of_words") (sp__law_rows_of_words K) := by
  obtain ⟨fd, F⟩ := T.df 55 (d := df__law_rows_of_words)
  have bi : Binds K fd ["_law_parts_here"] [] := FunD.bindsN F fun _ _ _ _ _ _ us hl => match us, hl with | [_], _ => rfl
  refine ok_def (k := 1) F sc__law_rows_of_words bi rfl rfl fun cdv A outer s H E hr X eX W tk po => ?_
  subst eX
  unfold b__law_rows_of_words
  exact (mss_cons (ms_set (i := 1) (me_lst (ma_cons (me_tup ma_nil) ma_nil)) fun h => ps_set sc__law_rows_of_words.nd rfl (by first | exact .inl rfl | exact .inr rfl) h)
    (mss_cons (ms_for po rfl (mi_seq (me_ix (hu1 hr) (me_var 0 (pv 0)) me_int)) (mg_name (pg_name sc__law_rows_of_words.nd rfl (by first | exact .inl rfl | exact .inr rfl)))
    (mss_cons (ms_set (i := 3) (me_lst ma_nil) fun h => ps_set sc__law_rows_of_words.nd rfl (by first | exact .inl rfl | exact .inr rfl) h)
    (mss_cons (ms_for po rfl (mi_seq (me_var 1 (pv 1))) (mg_name (pg_name sc__law_rows_of_words.nd rfl (by first | exact .inl rfl | exact .inr rfl)))
    (mss_one (ms_expr (me_extend (me_var 3 (pv 3)) (ma_cons (me_lc rfl sc__law_rows_of_words.nd (mi_seq (me_ix (hu1 hr) (me_var 0 (pv 0)) me_int)) (own := [("_law_word", 5)]) (blkOk_by (by kernel_rfl)) bt_nm (fun _ _ _ _ _ => pg_name sc__law_rows_of_words.nd rfl (by first | exact .inl rfl | exact .inr rfl)) (fun _ _ _ _ _ => mts_nil) (fun _ _ _ _ _ => (me_op od_add (me_var 4 (pv 4)) (me_tup (ma_cons (me_var 5 (pv 5)) ma_nil))))) ma_nil)))) (fun h1 h2 h3 => ps_for po rfl h1 h2 h3))
    (mss_one (ms_set (i := 1) (me_var 3 (pv 3)) fun h => ps_set sc__law_rows_of_words.nd rfl (by first | exact .inl rfl | exact .inr rfl) h)))) (fun h1 h2 h3 => ps_for po rfl h1 h2 h3))
    (mss_one (ms_ret (me_var 1 (pv 1))))))
/-! _law_true_rows: 0 _law_rows_here, 1 _law_slots, 2 _law_told, 3 _law_default, 4 _law_record, 5 _law_row_here, 6 _law_pairs, 7 _law_pair, 8 _law_inside, 9 _law_word -/
def b__law_true_rows (K : PySem.W.Frag) (rec : SpD) (W : XW) : SM :=
  (mSeq (mFor (iSeq (mVar 0)) (gNm 5)
    (mIf (mOr (mB (mOp vEq (mOp vIx (mVar 5) (mC (.int 0))) (mC (.str "read")))) (mB (mOp vEq (mOp vIx (mVar 5) (mC (.int 0))) (mC (.str "peek")))))
    (mSeq (mAsg (mOp vIx (mVar 4) (mOp vIx (mVar 5) (mC (.int 0)))) (gNm 6)) (mSeq (mIf (mB (mOp vNotIn (mOp vIx (mVar 5) (mC (.int 1))) (mLc (iSeq (mVar 6)) (gNm 7) mYes (mOp vIx (mVar 7) (mC (.int 0))) [7])))
    (mDrop (mMet okL rApp (mVar 6) (mCons (mTup (mCons (mOp vIx (mVar 5) (mC (.int 1))) (mCons (mOp vIx (mVar 2) (mOp vIx (mVar 5) (mC (.int 1)))) mNil))) mNil)))
    mNx) (mAsg (mOp vIx (mVar 2) (mOp vIx (mVar 5) (mC (.int 1)))) (gIx (mVar 1) (mOp vIx (mVar 5) (mC (.int 2)))))))
    (mIf (mB (mOp vEq (mOp vIx (mVar 5) (mC (.int 0))) (mC (.str "put"))))
    (mAsg (mOp vIx (mVar 5) (mC (.int 2))) (gIx (mVar 1) (mOp vIx (mVar 5) (mC (.int 1)))))
    (mIf (mB (mOp vEq (mOp vIx (mVar 5) (mC (.int 0))) (mC (.str "give"))))
    (mRet (mGet2 (mVar 1) (mOp vIx (mVar 5) (mC (.int 1))) (mVar 3)))
    (mIf (mB (mOp vEq (mOp vIx (mVar 5) (mC (.int 0))) (mC (.str "say"))))
    (mDrop (mMet okL rApp (mOp vIx (mVar 4) (mC (.str "say"))) (mCons (mGet2 (mVar 1) (mOp vIx (mVar 5) (mC (.int 1))) (mVar 3)) mNil)))
    (mIf (mB (mOp vEq (mOp vIx (mVar 5) (mC (.int 0))) (mC (.str "write"))))
    (mDrop (mMet okL rApp (mOp vIx (mVar 4) (mC (.str "write"))) (mCons (mTup (mCons (mOp vIx (mVar 5) (mC (.int 1))) (mCons (mGet2 (mVar 1) (mOp vIx (mVar 5) (mC (.int 2))) (mVar 3)) mNil))) mNil)))
    (mSeq (mAsg (mIfE (mB (mOp vEq (mGet2 (mVar 1) (mOp vIx (mVar 5) (mC (.int 1))) (mVar 3)) (mOp vIx (mVar 5) (mC (.int 2))))) (mOp vIx (mVar 5) (mC (.int 3))) (mOp vIx (mVar 5) (mC (.int 4)))) (gNm 8)) (mSeq (mAsg (mCall rec W (mCons (mVar 8) (mCons (mVar 1) (mCons (mVar 2) (mCons (mVar 3) (mCons (mVar 4) mNil)))))) (gNm 9)) (mIf (mB (mOp vIsNot (mVar 9) (mC .non)))
    (mRet (mVar 9))
    mNx))))))))) (mRet (mC .non)))
theorem sc__law_true_rows : FnScope ["_law_rows_here", "_law_slots", "_law_told", "_law_default", "_law_record", "_law_row_here", "_law_pairs", "_law_pair", "_law_inside", "_law_word"] ["_law_rows_here", "_law_slots", "_law_told", "_law_default", "_law_record"] (defScope st__law_true_rows) := ⟨rfl, rfl, rfl, by decide +kernel, rfl, by decide +kernel, by decide +kernel⟩
def sp__law_true_rows (K : PySem.W.Frag) : Nat → SpD
  | 0 => fun _ _ _ _ => False
  | n + 1 => spB 5 5 (b__law_true_rows K (sp__law_true_rows K n))
theorem ok__law_true_rows (T : Tz fac fns sups PG_.main.file exns K mg) : ∀ n, Fd PG_ w K mg base (2 + n) (He.ga K "_law_true_rows") (sp__law_true_rows K n) := by
  obtain ⟨fd, F⟩ := T.df 56 (d := df__law_true_rows)
  have bi : Binds K fd ["_law_rows_here", "_law_slots", "_law_told", "_law_default", "_law_record"] [] := FunD.bindsN F fun _ _ _ _ _ _ us hl => match us, hl with | [_, _, _, _, _], _ => rfl
  intro n
  induction n with
  | zero => exact fd_no bi F.kp
  | succ n RC =>
  refine ok_def (k := 2 + n) F sc__law_true_rows bi rfl rfl fun cdv A outer s H E hr X eX W tk po => ?_
  subst eX
  unfold b__law_true_rows
  exact (mss_cons (ms_for po rfl (mi_seq (me_var 0 (pv 0))) (mg_name (pg_name sc__law_true_rows.nd rfl (by first | exact .inl rfl | exact .inr rfl)))
    (mss_one (ms_if (MW.mt (mw_or (mt_cmp (od_eq (hu64 hr)) (me_ix (hu1 hr) (me_var 5 (pv 5)) me_int) me_str) (mw_or1 (mt_cmp (od_eq (hu64 hr)) (me_ix (hu1 hr) (me_var 5 (pv 5)) me_int) me_str))))
    (mss_cons (ms_set (i := 6) (me_ix (hu1 hr) (me_var 4 (pv 4)) (me_ix (hu1 hr) (me_var 5 (pv 5)) me_int)) fun h => ps_set sc__law_true_rows.nd rfl (by first | exact .inl rfl | exact .inr rfl) h)
    (mss_cons (ms_if (mt_cmp (od_notin (hu65 hr)) (me_ix (hu1 hr) (me_var 5 (pv 5)) me_int) (me_lc rfl sc__law_true_rows.nd (mi_seq (me_var 6 (pv 6))) (own := [("_law_pair", 7)]) (blkOk_by (by kernel_rfl)) bt_nm (fun _ _ _ _ _ => pg_name sc__law_true_rows.nd rfl (by first | exact .inl rfl | exact .inr rfl)) (fun _ _ _ _ _ => mts_nil) (fun _ _ _ _ _ => (me_ix (hu1 hr) (me_var 7 (pv 7)) me_int))))
    (mss_one (ms_expr (me_append (me_var 6 (pv 6)) (ma_cons (me_tup (ma_cons (me_ix (hu1 hr) (me_var 5 (pv 5)) me_int) (ma_cons (me_ix (hu1 hr) (me_var 2 (pv 2)) (me_ix (hu1 hr) (me_var 5 (pv 5)) me_int)) ma_nil))) ma_nil))))
    mss_nil)
    (mss_one (ms_asg (me_ix (hu1 hr) (me_var 2 (pv 2)) (me_ix (hu1 hr) (me_var 5 (pv 5)) me_int)) (mg_sub (hu1 hr) (me_var 1 (pv 1)) (me_ix (hu1 hr) (me_var 5 (pv 5)) me_int))))))
    (mss_one (ms_if (mt_cmp (od_eq (hu64 hr)) (me_ix (hu1 hr) (me_var 5 (pv 5)) me_int) me_str)
    (mss_one (ms_asg (me_ix (hu1 hr) (me_var 5 (pv 5)) me_int) (mg_sub (hu1 hr) (me_var 1 (pv 1)) (me_ix (hu1 hr) (me_var 5 (pv 5)) me_int))))
    (mss_one (ms_if (mt_cmp (od_eq (hu64 hr)) (me_ix (hu1 hr) (me_var 5 (pv 5)) me_int) me_str)
    (mss_one (ms_ret (me_get2 (hu1 hr) (me_var 1 (pv 1)) (me_ix (hu1 hr) (me_var 5 (pv 5)) me_int) (me_var 3 (pv 3)))))
    (mss_one (ms_if (mt_cmp (od_eq (hu64 hr)) (me_ix (hu1 hr) (me_var 5 (pv 5)) me_int) me_str)
    (mss_one (ms_expr (me_append (me_ix (hu1 hr) (me_var 4 (pv 4)) me_str) (ma_cons (me_get2 (hu1 hr) (me_var 1 (pv 1)) (me_ix (hu1 hr) (me_var 5 (pv 5)) me_int) (me_var 3 (pv 3))) ma_nil))))
    (mss_one (ms_if (mt_cmp (od_eq (hu64 hr)) (me_ix (hu1 hr) (me_var 5 (pv 5)) me_int) me_str)
    (mss_one (ms_expr (me_append (me_ix (hu1 hr) (me_var 4 (pv 4)) me_str) (ma_cons (me_tup (ma_cons (me_ix (hu1 hr) (me_var 5 (pv 5)) me_int) (ma_cons (me_get2 (hu1 hr) (me_var 1 (pv 1)) (me_ix (hu1 hr) (me_var 5 (pv 5)) me_int) (me_var 3 (pv 3))) ma_nil))) ma_nil))))
    (mss_cons (ms_set (i := 8) (me_if (mt_cmp (od_eq (hu64 hr)) (me_get2 (hu1 hr) (me_var 1 (pv 1)) (me_ix (hu1 hr) (me_var 5 (pv 5)) me_int) (me_var 3 (pv 3))) (me_ix (hu1 hr) (me_var 5 (pv 5)) me_int)) (me_ix (hu1 hr) (me_var 5 (pv 5)) me_int) (me_ix (hu1 hr) (me_var 5 (pv 5)) me_int)) fun h => ps_set sc__law_true_rows.nd rfl (by first | exact .inl rfl | exact .inr rfl) h)
    (mss_cons (ms_set (i := 9) (me_fn RC (hr.mono (by omega)) tk (T.glo 70) (ma_cons (me_var 8 (pv 8)) (ma_cons (me_var 1 (pv 1)) (ma_cons (me_var 2 (pv 2)) (ma_cons (me_var 3 (pv 3)) (ma_cons (me_var 4 (pv 4)) ma_nil)))))) fun h => ps_set sc__law_true_rows.nd rfl (by first | exact .inl rfl | exact .inr rfl) h)
    (mss_one (ms_if (mt_cmp od_isnot (me_var 9 (pv 9)) me_non)
    (mss_one (ms_ret (me_var 9 (pv 9))))
    mss_nil)))))))))))))) (fun h1 h2 h3 => ps_for po rfl h1 h2 h3))
    (mss_one (ms_ret me_non)))
/-! _law_true: 0 _law_parts_here, 1 _law_words_here, 2 _law_told, 3 _law_k, 4 _law_pair, 5 _law_record, 6 _law_word -/
def b__law_true (K : PySem.W.Frag) (W : XW) : SM :=
  (mSeq (mAsg mDNew (gNm 2)) (mSeq (mFor (iRange1 (mCons (mCB vLen (mCons (mOp vIx (mVar 0) (mC (.int 1))) mNil)) mNil)) (gNm 3)
    (mAsg (mOp vIx (mVar 1) (mVar 3)) (gIx (mVar 2) (mOp vIx (mOp vIx (mVar 0) (mC (.int 1))) (mVar 3))))) (mSeq (mFor (iSeq (mOp vIx (mVar 0) (mC (.int 2)))) (gNm 4)
    (mSeq (mAsg (mDisp [((mC (.str "read")), (mLst mNil)), ((mC (.str "peek")), (mLst mNil)), ((mC (.str "say")), (mLst mNil)), ((mC (.str "write")), (mLst mNil))]) (gNm 5)) (mSeq (mAsg (mCall (sp__law_true_rows K 6) W (mCons (mOp vIx (mVar 4) (mC (.int 1))) (mCons mDNew (mCons (mVar 2) (mCons (mOp vIx (mOp vIx (mVar 0) (mC (.int 0))) (mC (.int 0))) (mCons (mVar 5) mNil)))))) (gNm 6)) (mAsg (mIfE (mB (mOp vIs (mVar 6) (mC .non))) (mOp vIx (mOp vIx (mVar 0) (mC (.int 0))) (mC (.int 0))) (mVar 6)) (gIx (mVar 2) (mOp vIx (mVar 4) (mC (.int 0)))))))) (mRet (mVar 2)))))
theorem sc__law_true : FnScope ["_law_parts_here", "_law_words_here", "_law_told", "_law_k", "_law_pair", "_law_record", "_law_word"] ["_law_parts_here", "_law_words_here"] (defScope st__law_true) := ⟨rfl, rfl, rfl, by decide +kernel, rfl, by decide +kernel, by decide +kernel⟩
def sp__law_true (K : PySem.W.Frag) : SpD := spB 2 5 (b__law_true K)
theorem ok__law_true (T : Tz fac fns sups PG_.main.file exns K mg) : Fd PG_ w K mg base 10 (He.ga K "_law_true") (sp__law_true K) := by
  obtain ⟨fd, F⟩ := T.df 57 (d := df__law_true)
  have bi : Binds K fd ["_law_parts_here", "_law_words_here"] [] := FunD.bindsN F fun _ _ _ _ _ _ us hl => match us, hl with | [_, _], _ => rfl
  refine ok_def (k := 9) F sc__law_true bi rfl rfl fun cdv A outer s H E hr X eX W tk po => ?_
  subst eX
  unfold b__law_true
  exact (mss_cons (ms_set (i := 2) me_dnew fun h => ps_set sc__law_true.nd rfl (by first | exact .inl rfl | exact .inr rfl) h)
    (mss_cons (ms_for po rfl (mi_range1 (ma_cons (me_callB cd_len (ma_cons (me_ix (hu1 hr) (me_var 0 (pv 0)) me_int) ma_nil) fun h1 h2 => pe_callB h1 rfl (T.free 13) boot_len h2) ma_nil) fun h => pi_range1 rfl (T.free 44) h) (mg_name (pg_name sc__law_true.nd rfl (by first | exact .inl rfl | exact .inr rfl)))
    (mss_one (ms_asg (me_ix (hu1 hr) (me_var 1 (pv 1)) (me_var 3 (pv 3))) (mg_sub (hu1 hr) (me_var 2 (pv 2)) (me_ix (hu1 hr) (me_ix (hu1 hr) (me_var 0 (pv 0)) me_int) (me_var 3 (pv 3)))))) (fun h1 h2 h3 => ps_for po rfl h1 h2 h3))
    (mss_cons (ms_for po rfl (mi_seq (me_ix (hu1 hr) (me_var 0 (pv 0)) me_int)) (mg_name (pg_name sc__law_true.nd rfl (by first | exact .inl rfl | exact .inr rfl)))
    (mss_cons (ms_set (i := 5) (me_disp (mps_cons me_str (me_lst ma_nil) (mps_cons me_str (me_lst ma_nil) (mps_cons me_str (me_lst ma_nil) (mps_cons me_str (me_lst ma_nil) mps_nil))))) fun h => ps_set sc__law_true.nd rfl (by first | exact .inl rfl | exact .inr rfl) h)
    (mss_cons (ms_set (i := 6) (me_fn (ok__law_true_rows T 6) (hr.mono (by omega)) tk (T.glo 70) (ma_cons (me_ix (hu1 hr) (me_var 4 (pv 4)) me_int) (ma_cons me_dnew (ma_cons (me_var 2 (pv 2)) (ma_cons (me_ix (hu1 hr) (me_ix (hu1 hr) (me_var 0 (pv 0)) me_int) me_int) (ma_cons (me_var 5 (pv 5)) ma_nil)))))) fun h => ps_set sc__law_true.nd rfl (by first | exact .inl rfl | exact .inr rfl) h)
    (mss_one (ms_asg (me_if (mt_cmp od_is (me_var 6 (pv 6)) me_non) (me_ix (hu1 hr) (me_ix (hu1 hr) (me_var 0 (pv 0)) me_int) me_int) (me_var 6 (pv 6))) (mg_sub (hu1 hr) (me_var 2 (pv 2)) (me_ix (hu1 hr) (me_var 4 (pv 4)) me_int)))))) (fun h1 h2 h3 => ps_for po rfl h1 h2 h3))
    (mss_one (ms_ret (me_var 2 (pv 2)))))))
/-! _law_own_telling: 0 _law_parts_here, 1 _law_words_here, 2 _law_name, 3 _law_told, 4 _law_record, 5 _law_rows_here, 6 _law_pair, 7 _law_word -/
def b__law_own_telling (K : PySem.W.Frag) (W : XW) : SM :=
  (mSeq (mAsg (mCall (sp__law_true K) W (mCons (mVar 0) (mCons (mVar 1) mNil))) (gNm 3)) (mSeq (mAsg (mDisp [((mC (.str "read")), (mLst mNil)), ((mC (.str "peek")), (mLst mNil)), ((mC (.str "say")), (mLst mNil)), ((mC (.str "write")), (mLst mNil))]) (gNm 4)) (mSeq (mAsg (mOp vIx (mLc (iSeq (mOp vAdd (mOp vIx (mVar 0) (mC (.int 2))) (mOp vIx (mVar 0) (mC (.int 3))))) (gNm 6) (mB (mOp vEq (mOp vIx (mVar 6) (mC (.int 0))) (mVar 2))) (mOp vIx (mVar 6) (mC (.int 1))) [6]) (mC (.int 0))) (gNm 5)) (mSeq (mAsg (mCall (sp__law_true_rows K 6) W (mCons (mVar 5) (mCons mDNew (mCons (mVar 3) (mCons (mOp vIx (mOp vIx (mVar 0) (mC (.int 0))) (mC (.int 0))) (mCons (mVar 4) mNil)))))) (gNm 7)) (mSeq (mIf (mB (mOp vIn (mVar 2) (mLc (iSeq (mOp vIx (mVar 0) (mC (.int 3)))) (gNm 6) mYes (mOp vIx (mVar 6) (mC (.int 0))) [6])))
    (mRet (mTup (mCons (mC .non) (mCons (mCB vTuple (mCons (mOp vIx (mVar 4) (mC (.str "say"))) mNil)) (mCons (mCB vTuple (mCons (mOp vIx (mVar 4) (mC (.str "write"))) mNil)) mNil)))))
    mNx) (mRet (mTup (mCons (mIfE (mB (mOp vIs (mVar 7) (mC .non))) (mOp vIx (mOp vIx (mVar 0) (mC (.int 0))) (mC (.int 0))) (mVar 7)) (mCons (mTup mNil) (mCons (mTup mNil) mNil))))))))))
theorem sc__law_own_telling : FnScope ["_law_parts_here", "_law_words_here", "_law_name", "_law_told", "_law_record", "_law_rows_here", "_law_pair", "_law_word"] ["_law_parts_here", "_law_words_here", "_law_name"] (defScope st__law_own_telling) := ⟨rfl, rfl, rfl, by decide +kernel, rfl, by decide +kernel, by decide +kernel⟩
def sp__law_own_telling (K : PySem.W.Frag) : SpD := spB 3 5 (b__law_own_telling K)
theorem ok__law_own_telling (T : Tz fac fns sups PG_.main.file exns K mg) : Fd PG_ w K mg base 12 (He.ga K "_law_own_telling") (sp__law_own_telling K) := by
  obtain ⟨fd, F⟩ := T.df 58 (d := df__law_own_telling)
  have bi : Binds K fd ["_law_parts_here", "_law_words_here", "_law_name"] [] := FunD.bindsN F fun _ _ _ _ _ _ us hl => match us, hl with | [_, _, _], _ => rfl
  refine ok_def (k := 11) F sc__law_own_telling bi rfl rfl fun cdv A outer s H E hr X eX W tk po => ?_
  subst eX
  unfold b__law_own_telling
  exact (mss_cons (ms_set (i := 3) (me_fn (ok__law_true T) (hr.mono (by omega)) tk (T.glo 71) (ma_cons (me_var 0 (pv 0)) (ma_cons (me_var 1 (pv 1)) ma_nil))) fun h => ps_set sc__law_own_telling.nd rfl (by first | exact .inl rfl | exact .inr rfl) h)
    (mss_cons (ms_set (i := 4) (me_disp (mps_cons me_str (me_lst ma_nil) (mps_cons me_str (me_lst ma_nil) (mps_cons me_str (me_lst ma_nil) (mps_cons me_str (me_lst ma_nil) mps_nil))))) fun h => ps_set sc__law_own_telling.nd rfl (by first | exact .inl rfl | exact .inr rfl) h)
    (mss_cons (ms_set (i := 5) (me_ix (hu1 hr) (me_lc rfl sc__law_own_telling.nd (mi_seq (me_op od_add (me_ix (hu1 hr) (me_var 0 (pv 0)) me_int) (me_ix (hu1 hr) (me_var 0 (pv 0)) me_int))) (own := [("_law_pair", 6)]) (blkOk_by (by kernel_rfl)) bt_nm (fun _ _ _ _ _ => pg_name sc__law_own_telling.nd rfl (by first | exact .inl rfl | exact .inr rfl)) (fun _ _ _ _ _ => mts_one (mt_cmp (od_eq (hu64 hr)) (me_ix (hu1 hr) (me_var 6 (pv 6)) me_int) (me_var 2 (pv 2)))) (fun _ _ _ _ _ => (me_ix (hu1 hr) (me_var 6 (pv 6)) me_int))) me_int) fun h => ps_set sc__law_own_telling.nd rfl (by first | exact .inl rfl | exact .inr rfl) h)
    (mss_cons (ms_set (i := 7) (me_fn (ok__law_true_rows T 6) (hr.mono (by omega)) tk (T.glo 70) (ma_cons (me_var 5 (pv 5)) (ma_cons me_dnew (ma_cons (me_var 3 (pv 3)) (ma_cons (me_ix (hu1 hr) (me_ix (hu1 hr) (me_var 0 (pv 0)) me_int) me_int) (ma_cons (me_var 4 (pv 4)) ma_nil)))))) fun h => ps_set sc__law_own_telling.nd rfl (by first | exact .inl rfl | exact .inr rfl) h)
    (mss_cons (ms_if (mt_cmp (od_in (hu65 hr)) (me_var 2 (pv 2)) (me_lc rfl sc__law_own_telling.nd (mi_seq (me_ix (hu1 hr) (me_var 0 (pv 0)) me_int)) (own := [("_law_pair", 6)]) (blkOk_by (by kernel_rfl)) bt_nm (fun _ _ _ _ _ => pg_name sc__law_own_telling.nd rfl (by first | exact .inl rfl | exact .inr rfl)) (fun _ _ _ _ _ => mts_nil) (fun _ _ _ _ _ => (me_ix (hu1 hr) (me_var 6 (pv 6)) me_int))))
    (mss_one (ms_ret (me_tup (ma_cons me_non (ma_cons (me_callT cd_tuple (ma_cons (me_ix (hu1 hr) (me_var 4 (pv 4)) me_str) ma_nil) fun h1 h2 => pe_callTy h1 rfl (T.free 14) boot_tuple h2) (ma_cons (me_callT cd_tuple (ma_cons (me_ix (hu1 hr) (me_var 4 (pv 4)) me_str) ma_nil) fun h1 h2 => pe_callTy h1 rfl (T.free 14) boot_tuple h2) ma_nil))))))
    mss_nil)
    (mss_one (ms_ret (me_tup (ma_cons (me_if (mt_cmp od_is (me_var 7 (pv 7)) me_non) (me_ix (hu1 hr) (me_ix (hu1 hr) (me_var 0 (pv 0)) me_int) me_int) (me_var 7 (pv 7))) (ma_cons (me_tup ma_nil) (ma_cons (me_tup ma_nil) ma_nil)))))))))))
/-! _law_table_of: 0 _law_parts_here, 1 _law_name, 2 _law_table, 3 _law_row_here -/
def b__law_table_of (K : PySem.W.Frag) (W : XW) : SM :=
  (mSeq (mAsg mDNewT (gNm 2)) (mSeq (mFor (iSeq (mCall (sp__law_rows_of_words K) W (mCons (mVar 0) mNil))) (gNm 3)
    (mAsg (mCall (sp__law_own_telling K) W (mCons (mVar 0) (mCons (mVar 3) (mCons (mVar 1) mNil)))) (gIxT (mVar 2) (mVar 3)))) (mRet (mVar 2))))
theorem sc__law_table_of : FnScope ["_law_parts_here", "_law_name", "_law_table", "_law_row_here"] ["_law_parts_here", "_law_name"] (defScope st__law_table_of) := ⟨rfl, rfl, rfl, by decide +kernel, rfl, by decide +kernel, by decide +kernel⟩
def sp__law_table_of (K : PySem.W.Frag) : SpD := spB 2 2 (b__law_table_of K)
theorem ok__law_table_of (T : Tz fac fns sups PG_.main.file exns K mg) : Fd PG_ w K mg base 14 (He.ga K "_law_table_of") (sp__law_table_of K) := by
  obtain ⟨fd, F⟩ := T.df 59 (d := df__law_table_of)
  have bi : Binds K fd ["_law_parts_here", "_law_name"] [] := FunD.bindsN F fun _ _ _ _ _ _ us hl => match us, hl with | [_, _], _ => rfl
  refine ok_def (k := 13) F sc__law_table_of bi rfl rfl fun cdv A outer s H E hr X eX W tk po => ?_
  subst eX
  unfold b__law_table_of
  exact (mss_cons (ms_set (i := 2) me_dnewT fun h => ps_set sc__law_table_of.nd rfl (by first | exact .inl rfl | exact .inr rfl) h)
    (mss_cons (ms_for po rfl (mi_seq (me_fn (ok__law_rows_of_words T) (hr.mono (by omega)) tk (T.glo 72) (ma_cons (me_var 0 (pv 0)) ma_nil))) (mg_name (pg_name sc__law_table_of.nd rfl (by first | exact .inl rfl | exact .inr rfl)))
    (mss_one (ms_asg (me_fn (ok__law_own_telling T) (hr.mono (by omega)) tk (T.glo 73) (ma_cons (me_var 0 (pv 0)) (ma_cons (me_var 3 (pv 3)) (ma_cons (me_var 1 (pv 1)) ma_nil)))) (mg_subT (hu1 hr) (me_var 2 (pv 2)) (me_var 3 (pv 3))))) (fun h1 h2 h3 => ps_for po rfl h1 h2 h3))
    (mss_one (ms_ret (me_var 2 (pv 2))))))
/-! _law_sets: 0 _law_many_here, 1 _law_found, 2 _law_size, 3 _law_places, 4 _law_first, 5 _law_place -/
def b__law_sets (K : PySem.W.Frag) (W : XW) : SM :=
  (mSeq (mAsg (mLst (mCons (mTup mNil) mNil)) (gNm 1)) (mSeq (mFor (iRange2 (mCons (mC (.int 1)) (mCons (mOp vAdd (mVar 0) (mC (.int 1))) mNil))) (gNm 2)
    (mFor (iSeq (mSl (mVar 1) mNoP mNoP)) (gNm 3)
    (mIf (mB (mOp vEq (mCB vLen (mCons (mVar 3) mNil)) (mOp vSub (mVar 2) (mC (.int 1)))))
    (mSeq (mAsg (mIfE (mB (mOp vEq (mVar 2) (mC (.int 1)))) (mC (.int 0)) (mOp vAdd (mOp vIx (mVar 3) (mNeg (mC (.int 1)))) (mC (.int 1)))) (gNm 4)) (mDrop (mMet okL rExt (mVar 1) (mCons (mLc (iRange2 (mCons (mVar 4) (mCons (mVar 0) mNil))) (gNm 5) mYes (mOp vAdd (mVar 3) (mTup (mCons (mVar 5) mNil))) [5]) mNil))))
    mNx))) (mRet (mVar 1))))
theorem sc__law_sets : FnScope ["_law_many_here", "_law_found", "_law_size", "_law_places", "_law_first", "_law_place"] ["_law_many_here"] (defScope st__law_sets) := ⟨rfl, rfl, rfl, by decide +kernel, rfl, by decide +kernel, by decide +kernel⟩
def sp__law_sets (K : PySem.W.Frag) : SpD := spB 1 5 (b__law_sets K)
theorem ok__law_sets (T : Tz fac fns sups PG_.main.file exns K mg) : Fd PG_ w K mg base 2 (He.ga K "_law_sets") (sp__law_sets K) := by
  obtain ⟨fd, F⟩ := T.df 60 (d := df__law_sets)
  have bi : Binds K fd ["_law_many_here"] [] := FunD.bindsN F fun _ _ _ _ _ _ us hl => match us, hl with | [_], _ => rfl
  refine ok_def (k := 1) F sc__law_sets bi rfl rfl fun cdv A outer s H E hr X eX W tk po => ?_
  subst eX
  unfold b__law_sets
  exact (mss_cons (ms_set (i := 1) (me_lst (ma_cons (me_tup ma_nil) ma_nil)) fun h => ps_set sc__law_sets.nd rfl (by first | exact .inl rfl | exact .inr rfl) h)
    (mss_cons (ms_for po rfl (mi_range2 (ma_cons me_int (ma_cons (me_op od_add (me_var 0 (pv 0)) me_int) ma_nil)) fun h => pi_range2 rfl (T.free 44) h) (mg_name (pg_name sc__law_sets.nd rfl (by first | exact .inl rfl | exact .inr rfl)))
    (mss_one (ms_for po rfl (mi_seq (me_sl (me_var 1 (pv 1)) mo_none mo_none)) (mg_name (pg_name sc__law_sets.nd rfl (by first | exact .inl rfl | exact .inr rfl)))
    (mss_one (ms_if (mt_cmp (od_eq (hu64 hr)) (me_callB cd_len (ma_cons (me_var 3 (pv 3)) ma_nil) fun h1 h2 => pe_callB h1 rfl (T.free 13) boot_len h2) (me_op od_sub (me_var 2 (pv 2)) me_int))
    (mss_cons (ms_set (i := 4) (me_if (mt_cmp (od_eq (hu64 hr)) (me_var 2 (pv 2)) me_int) me_int (me_op od_add (me_ix (hu1 hr) (me_var 3 (pv 3)) (me_neg me_int)) me_int)) fun h => ps_set sc__law_sets.nd rfl (by first | exact .inl rfl | exact .inr rfl) h)
    (mss_one (ms_expr (me_extend (me_var 1 (pv 1)) (ma_cons (me_lc rfl sc__law_sets.nd (mi_range2 (ma_cons (me_var 4 (pv 4)) (ma_cons (me_var 0 (pv 0)) ma_nil)) fun h => pi_range2 rfl (T.free 44) h) (own := [("_law_place", 5)]) (blkOk_by (by kernel_rfl)) bt_nm (fun _ _ _ _ _ => pg_name sc__law_sets.nd rfl (by first | exact .inl rfl | exact .inr rfl)) (fun _ _ _ _ _ => mts_nil) (fun _ _ _ _ _ => (me_op od_add (me_var 3 (pv 3)) (me_tup (ma_cons (me_var 5 (pv 5)) ma_nil))))) ma_nil)))))
    mss_nil)) (fun h1 h2 h3 => ps_for po rfl h1 h2 h3))) (fun h1 h2 h3 => ps_for po rfl h1 h2 h3))
    (mss_one (ms_ret (me_var 1 (pv 1))))))
/-! _law_named: 0 _law_parts_here, 1 _law_places, 2 _law_place -/
def b__law_named (K : PySem.W.Frag) (W : XW) : SM :=
  (mRet (mCB vTuple (mCons (mLc (iSeq (mVar 1)) (gNm 2) mYes (mOp vIx (mOp vIx (mVar 0) (mC (.int 1))) (mVar 2)) [2]) mNil)))
theorem sc__law_named : FnScope ["_law_parts_here", "_law_places", "_law_place"] ["_law_parts_here", "_law_places"] (defScope st__law_named) := ⟨rfl, rfl, rfl, by decide +kernel, rfl, by decide +kernel, by decide +kernel⟩
def sp__law_named (K : PySem.W.Frag) : SpD := spB 2 1 (b__law_named K)
theorem ok__law_named (T : Tz fac fns sups PG_.main.file exns K mg) : Fd PG_ w K mg base 2 (He.ga K "_law_named") (sp__law_named K) := by
  obtain ⟨fd, F⟩ := T.df 61 (d := df__law_named)
  have bi : Binds K fd ["_law_parts_here", "_law_places"] [] := FunD.bindsN F fun _ _ _ _ _ _ us hl => match us, hl with | [_, _], _ => rfl
  refine ok_def (k := 1) F sc__law_named bi rfl rfl fun cdv A outer s H E hr X eX W tk po => ?_
  subst eX
  unfold b__law_named
  exact (mss_one (ms_ret (me_callT cd_tuple (ma_cons (me_lc rfl sc__law_named.nd (mi_seq (me_var 1 (pv 1))) (own := [("_law_place", 2)]) (blkOk_by (by kernel_rfl)) bt_nm (fun _ _ _ _ _ => pg_name sc__law_named.nd rfl (by first | exact .inl rfl | exact .inr rfl)) (fun _ _ _ _ _ => mts_nil) (fun _ _ _ _ _ => (me_ix (hu1 hr) (me_ix (hu1 hr) (me_var 0 (pv 0)) me_int) (me_var 2 (pv 2))))) ma_nil) fun h1 h2 => pe_callTy h1 rfl (T.free 14) boot_tuple h2)))
/-! _law_fixed: 0 _law_table, 1 _law_words_here, 2 _law_places, 3 _law_row_here -/
def b__law_fixed (K : PySem.W.Frag) (W : XW) : SM :=
  (mRet (mOp vEq (mCB vLen (mCons (mLc (iRod (mVar 0)) (gNm 3) (mAnd (mTru (mCall (sp__law_keeps K) WN (mCons (mVar 1) (mCons (mVar 3) (mCons (mVar 2) mNil))))) (mB (mOp vNe (mOp vIxR (mVar 0) (mVar 3)) (mOp vIxR (mVar 0) (mVar 1))))) (mVar 3) [3]) mNil)) (mC (.int 0))))
theorem sc__law_fixed : FnScope ["_law_table", "_law_words_here", "_law_places", "_law_row_here"] ["_law_table", "_law_words_here", "_law_places"] (defScope st__law_fixed) := ⟨rfl, rfl, rfl, by decide +kernel, rfl, by decide +kernel, by decide +kernel⟩
def sp__law_fixed (K : PySem.W.Frag) : SpD := spB 3 1 (b__law_fixed K)
theorem ok__law_fixed (T : Tz fac fns sups PG_.main.file exns K mg) : Fd PG_ w K mg base 4 (He.ga K "_law_fixed") (sp__law_fixed K) := by
  obtain ⟨fd, F⟩ := T.df 62 (d := df__law_fixed)
  have bi : Binds K fd ["_law_table", "_law_words_here", "_law_places"] [] := FunD.bindsN F fun _ _ _ _ _ _ us hl => match us, hl with | [_, _, _], _ => rfl
  refine ok_def (k := 3) F sc__law_fixed bi rfl rfl fun cdv A outer s H E hr X eX W tk po => ?_
  subst eX
  unfold b__law_fixed
  exact (mss_one (ms_ret (me_cmp (od_eq (hu64 hr)) (me_callB cd_len (ma_cons (me_lc rfl sc__law_fixed.nd (mi_rod (me_var 0 (pv 0))) (own := [("_law_row_here", 3)]) (blkOk_by (by kernel_rfl)) bt_nm (fun _ _ _ _ _ => pg_name sc__law_fixed.nd rfl (by first | exact .inl rfl | exact .inr rfl)) (fun _ _ _ _ _ => mts_one (MW.mt (mw_and (mt_tru (me_fn (ok__law_keeps T) (hr.mono (by omega)) tk_none (T.glo 74) (ma_cons (me_var 1 (pv 1)) (ma_cons (me_var 3 (pv 3)) (ma_cons (me_var 2 (pv 2)) ma_nil))))) (mw_and1 (mt_cmp (od_ne (hu64 hr)) (me_ixR (hu1 hr) (me_var 0 (pv 0)) (me_var 3 (pv 3))) (me_ixR (hu1 hr) (me_var 0 (pv 0)) (me_var 1 (pv 1)))))))) (fun _ _ _ _ _ => (me_var 3 (pv 3)))) ma_nil) fun h1 h2 => pe_callB h1 rfl (T.free 13) boot_len h2) me_int)))
/-! _law_no_set: 0 _law_state_here, 1 _law_parts_here, 2 _law_sources, 3 _law_kind -/
def b__law_no_set (K : PySem.W.Frag) (W : XW) : SM :=
  (mSeq (mAsg (mOp vIx (mVar 1) (mC (.int 1))) (gNm 2)) (mSeq (mAsg (mCall (sp__law_draw K) W (mCons (mVar 0) (mCons (mC (.int 9)) mNil))) (gNm 3)) (mSeq (mIf (mB (mOp vLt (mVar 3) (mC (.int 5))))
    (mRet (mOp vIx (mLst (mCons (mC .non) (mCons (mCB vList (mCons (mVar 2) mNil)) (mCons (mOp vIx (mVar 2) (mC (.int 0))) (mCons (mTup (mCons (mOp vIx (mVar 2) (mC (.int 0))) (mCons (mOp vIx (mVar 2) (mC (.int 0))) mNil))) (mCons (mTup (mCons (mC (.str "UA")) mNil)) mNil)))))) (mVar 3)))
    mNx) (mSeq (mIf (mAnd (mB (mOp vEq (mVar 3) (mC (.int 5)))) (mB (mOp vGt (mCB vLen (mCons (mVar 2) mNil)) (mC (.int 1)))))
    (mRet (mRevT (mVar 2)))
    mNx) (mSeq (mIf (mAnd (mB (mOp vEq (mVar 3) (mC (.int 6)))) (mB (mOp vGt (mCB vLen (mCons (mOp vIx (mVar 1) (mC (.int 2))) mNil)) (mC (.int 0)))))
    (mRet (mTup (mCons (mOp vIx (mOp vIx (mOp vIx (mVar 1) (mC (.int 2))) (mC (.int 0))) (mC (.int 0))) mNil)))
    mNx) (mRet (mOp vIx (mLst (mCons (mTup (mCons (mVar 2) mNil)) (mCons (mTup (mCons (mC (.bl true)) mNil)) (mCons (mTup (mCons (mC .non) mNil)) (mCons mDNew mNil))))) (mCall (sp__law_draw K) W (mCons (mVar 0) (mCons (mC (.int 4)) mNil))))))))))
theorem sc__law_no_set : FnScope ["_law_state_here", "_law_parts_here", "_law_sources", "_law_kind"] ["_law_state_here", "_law_parts_here"] (defScope st__law_no_set) := ⟨rfl, rfl, rfl, by decide +kernel, rfl, by decide +kernel, by decide +kernel⟩
def sp__law_no_set (K : PySem.W.Frag) : SpD := spB 2 2 (b__law_no_set K)
theorem ok__law_no_set (T : Tz fac fns sups PG_.main.file exns K mg) : Fd PG_ w K mg base 4 (He.ga K "_law_no_set") (sp__law_no_set K) := by
  obtain ⟨fd, F⟩ := T.df 63 (d := df__law_no_set)
  have bi : Binds K fd ["_law_state_here", "_law_parts_here"] [] := FunD.bindsN F fun _ _ _ _ _ _ us hl => match us, hl with | [_, _], _ => rfl
  refine ok_def (k := 3) F sc__law_no_set bi rfl rfl fun cdv A outer s H E hr X eX W tk po => ?_
  subst eX
  unfold b__law_no_set
  exact (mss_cons (ms_set (i := 2) (me_ix (hu1 hr) (me_var 1 (pv 1)) me_int) fun h => ps_set sc__law_no_set.nd rfl (by first | exact .inl rfl | exact .inr rfl) h)
    (mss_cons (ms_set (i := 3) (me_fn (ok__law_draw T) (hr.mono (by omega)) tk (T.glo 60) (ma_cons (me_var 0 (pv 0)) (ma_cons me_int ma_nil))) fun h => ps_set sc__law_no_set.nd rfl (by first | exact .inl rfl | exact .inr rfl) h)
    (mss_cons (ms_if (mt_cmp od_lt (me_var 3 (pv 3)) me_int)
    (mss_one (ms_ret (me_ix (hu1 hr) (me_lst (ma_cons me_non (ma_cons (me_callT cd_list (ma_cons (me_var 2 (pv 2)) ma_nil) fun h1 h2 => pe_callTy h1 rfl (T.free 35) boot_list h2) (ma_cons (me_ix (hu1 hr) (me_var 2 (pv 2)) me_int) (ma_cons (me_tup (ma_cons (me_ix (hu1 hr) (me_var 2 (pv 2)) me_int) (ma_cons (me_ix (hu1 hr) (me_var 2 (pv 2)) me_int) ma_nil))) (ma_cons (me_tup (ma_cons me_str ma_nil)) ma_nil)))))) (me_var 3 (pv 3)))))
    mss_nil)
    (mss_cons (ms_if (MW.mt (mw_and (mt_cmp (od_eq (hu64 hr)) (me_var 3 (pv 3)) me_int) (mw_and1 (mt_cmp od_gt (me_callB cd_len (ma_cons (me_var 2 (pv 2)) ma_nil) fun h1 h2 => pe_callB h1 rfl (T.free 13) boot_len h2) me_int))))
    (mss_one (ms_ret (me_revT (me_var 2 (pv 2)))))
    mss_nil)
    (mss_cons (ms_if (MW.mt (mw_and (mt_cmp (od_eq (hu64 hr)) (me_var 3 (pv 3)) me_int) (mw_and1 (mt_cmp od_gt (me_callB cd_len (ma_cons (me_ix (hu1 hr) (me_var 1 (pv 1)) me_int) ma_nil) fun h1 h2 => pe_callB h1 rfl (T.free 13) boot_len h2) me_int))))
    (mss_one (ms_ret (me_tup (ma_cons (me_ix (hu1 hr) (me_ix (hu1 hr) (me_ix (hu1 hr) (me_var 1 (pv 1)) me_int) me_int) me_int) ma_nil))))
    mss_nil)
    (mss_one (ms_ret (me_ix (hu1 hr) (me_lst (ma_cons (me_tup (ma_cons (me_var 2 (pv 2)) ma_nil)) (ma_cons (me_tup (ma_cons me_bl ma_nil)) (ma_cons (me_tup (ma_cons me_non ma_nil)) (ma_cons me_dnew ma_nil))))) (me_fn (ok__law_draw T) (hr.mono (by omega)) tk (T.glo 60) (ma_cons (me_var 0 (pv 0)) (ma_cons me_int ma_nil)))))))))))
/-! _law_first_lever: 0 _law_table, 1 _law_words_here, 2 _law_places, 3 _law_row_here -/
def b__law_first_lever (K : PySem.W.Frag) (W : XW) : SM :=
  (mSeq (mFor (iRod (mVar 0)) (gNm 3)
    (mIf (mAnd (mTru (mCall (sp__law_keeps K) W (mCons (mVar 1) (mCons (mVar 3) (mCons (mCall (sp__law_rest_of K) W (mCons (mVar 2) (mCons (mCB vLen (mCons (mVar 1) mNil)) mNil))) mNil))))) (mB (mOp vNe (mOp vIxR (mVar 0) (mVar 3)) (mOp vIxR (mVar 0) (mVar 1)))))
    (mRet (mVar 3))
    mNx)) (mRet (mC .non)))
theorem sc__law_first_lever : FnScope ["_law_table", "_law_words_here", "_law_places", "_law_row_here"] ["_law_table", "_law_words_here", "_law_places"] (defScope st__law_first_lever) := ⟨rfl, rfl, rfl, by decide +kernel, rfl, by decide +kernel, by decide +kernel⟩
def sp__law_first_lever (K : PySem.W.Frag) : SpD := spB 3 1 (b__law_first_lever K)
theorem ok__law_first_lever (T : Tz fac fns sups PG_.main.file exns K mg) : Fd PG_ w K mg base 4 (He.ga K "_law_first_lever") (sp__law_first_lever K) := by
  obtain ⟨fd, F⟩ := T.df 64 (d := df__law_first_lever)
  have bi : Binds K fd ["_law_table", "_law_words_here", "_law_places"] [] := FunD.bindsN F fun _ _ _ _ _ _ us hl => match us, hl with | [_, _, _], _ => rfl
  refine ok_def (k := 3) F sc__law_first_lever bi rfl rfl fun cdv A outer s H E hr X eX W tk po => ?_
  subst eX
  unfold b__law_first_lever
  exact (mss_cons (ms_for po rfl (mi_rod (me_var 0 (pv 0))) (mg_name (pg_name sc__law_first_lever.nd rfl (by first | exact .inl rfl | exact .inr rfl)))
    (mss_one (ms_if (MW.mt (mw_and (mt_tru (me_fn (ok__law_keeps T) (hr.mono (by omega)) tk (T.glo 74) (ma_cons (me_var 1 (pv 1)) (ma_cons (me_var 3 (pv 3)) (ma_cons (me_fn (ok__law_rest_of T) (hr.mono (by omega)) tk (T.glo 75) (ma_cons (me_var 2 (pv 2)) (ma_cons (me_callB cd_len (ma_cons (me_var 1 (pv 1)) ma_nil) fun h1 h2 => pe_callB h1 rfl (T.free 13) boot_len h2) ma_nil))) ma_nil))))) (mw_and1 (mt_cmp (od_ne (hu64 hr)) (me_ixR (hu1 hr) (me_var 0 (pv 0)) (me_var 3 (pv 3))) (me_ixR (hu1 hr) (me_var 0 (pv 0)) (me_var 1 (pv 1)))))))
    (mss_one (ms_ret (me_var 3 (pv 3))))
    mss_nil)) (fun h1 h2 h3 => ps_for po rfl h1 h2 h3))
    (mss_one (ms_ret me_non)))
/-! _law_flag: 0 _law_told, 1 _law_due -/
def b__law_flag (K : PySem.W.Frag) (W : XW) : SM :=
  (mRet (mAndV (mCB vIsi (mCons (mVar 0) (mCons (mC (.ty "bool")) mNil))) (mOp vEq (mVar 0) (mVar 1))))
theorem sc__law_flag : FnScope ["_law_told", "_law_due"] ["_law_told", "_law_due"] (defScope st__law_flag) := ⟨rfl, rfl, rfl, by decide +kernel, rfl, by decide +kernel, by decide +kernel⟩
def sp__law_flag (K : PySem.W.Frag) : SpD := spB 2 0 (b__law_flag K)
theorem ok__law_flag (T : Tz fac fns sups PG_.main.file exns K mg) : Fd PG_ w K mg base 2 (He.ga K "_law_flag") (sp__law_flag K) := by
  obtain ⟨fd, F⟩ := T.df 65 (d := df__law_flag)
  have bi : Binds K fd ["_law_told", "_law_due"] [] := FunD.bindsN F fun _ _ _ _ _ _ us hl => match us, hl with | [_, _], _ => rfl
  refine ok_def (k := 1) F sc__law_flag bi rfl rfl fun cdv A outer s H E hr X eX W tk po => ?_
  subst eX
  unfold b__law_flag
  exact (mss_one (ms_ret (me_and (me_callB cd_isi (ma_cons (me_var 0 (pv 0)) (ma_cons (me_ty (T.free 76) boot_bool) ma_nil)) fun h1 h2 => pe_callB h1 rfl (T.free 15) boot_isinstance h2) (me_one (me_cmp (od_eq (hu64 hr)) (me_var 0 (pv 0)) (me_var 1 (pv 1)))))))
/-! _law_refused: 0 _law_program_here, 1 _law_words_here, 2 _law_name, 3 _law_value, 4 _law_found, 5 e -/
def b__law_refused (K : PySem.W.Frag) (W : XW) : SM :=
  (mSeq (mAsg (mLst mNil) (gNm 4)) (mSeq (mTry K (fun W1 => (mDrop (mCall (sp_lever_words K) W1 (mCons (mVar 0) (mCons (mVar 1) (mCons (mVar 2) (mCons (mVar 3) mNil))))))) [⟨He.ga K "InvalidSources", 5, fun a cls fs => (mAsg (mLst (mCons (mXf 5 (He.ga K "InvalidSources") a cls fs "sources") mNil)) (gNm 4))⟩] W) (mRet (mAndV (mOp vEq (mCB vLen (mCons (mVar 4) mNil)) (mC (.int 1))) (mOp (vEqA fun b => b) (mOp vIx (mVar 4) (mC (.int 0))) (mVar 3))))))
theorem sc__law_refused : FnScope ["_law_program_here", "_law_words_here", "_law_name", "_law_value", "_law_found", "e"] ["_law_program_here", "_law_words_here", "_law_name", "_law_value"] (defScope st__law_refused) := ⟨rfl, rfl, rfl, by decide +kernel, rfl, by decide +kernel, by decide +kernel⟩
def sp__law_refused (K : PySem.W.Frag) : SpD := spB 4 2 (b__law_refused K)
theorem ok__law_refused (T : Tz fac fns sups PG_.main.file exns K mg) : Fd PG_ w K mg base 26 (He.ga K "_law_refused") (sp__law_refused K) := by
  obtain ⟨fd, F⟩ := T.df 66 (d := df__law_refused)
  have bi : Binds K fd ["_law_program_here", "_law_words_here", "_law_name", "_law_value"] [] := FunD.bindsN F fun _ _ _ _ _ _ us hl => match us, hl with | [_, _, _, _], _ => rfl
  refine ok_def (k := 25) F sc__law_refused bi rfl rfl fun cdv A outer s H E hr X eX W tk po => ?_
  subst eX
  unfold b__law_refused
  exact (mss_cons (ms_set (i := 4) (me_lst ma_nil) fun h => ps_set sc__law_refused.nd rfl (by first | exact .inl rfl | exact .inr rfl) h)
    (mss_cons (ms_try rfl rfl sc__law_refused.nd tk (fun B2 W1 pn xe tk po => (mss_one (ms_expr (me_fn (ok_lever_words T) (hr.mono (by omega)) tk (T.glo 77) (ma_cons (me_var 0 (pv 0)) (ma_cons (me_var 1 (pv 1)) (ma_cons (me_var 2 (pv 2)) (ma_cons (me_var 3 (pv 3)) ma_nil)))))))) (.cons rfl rfl ⟨rfl, by decide, .inl (T.glo 78)⟩ (fun a oe cls d pn hz hf fs B2 xd => (mss_one (ms_set (i := 4) (me_lst (ma_cons (me_xf (ex_InvalidSources (w := w) (base := base) T).xf (ex_InvalidSources (w := w) (base := base) T).hno hz hf xd (me_var 5 (pv 5))) ma_nil)) fun h => ps_set sc__law_refused.nd rfl (by first | exact .inl rfl | exact .inr rfl) h))) .nil))
    (mss_one (ms_ret (me_and (me_cmp (od_eq (hu64 hr)) (me_callB cd_len (ma_cons (me_var 4 (pv 4)) ma_nil) fun h1 h2 => pe_callB h1 rfl (T.free 13) boot_len h2) me_int) (me_one (me_cmp (od_eqA (hu65 hr)) (me_ix (hu1 hr) (me_var 4 (pv 4)) me_int) (me_var 3 (pv 3)))))))))
/-! law: 0 _law_script, 1 _law_state_here, 2 _law_parts_here, 3 _law_name, 4 _law_words_here, 5 _law_program_here, 6 _law_table, 7 _law_places, 8 _law_sources, 9 _law_all_sets, 10 _law_turn, 11 _law_due, 12 _law_told, 13 _law_wrong -/
def b_law (K : PySem.W.Frag) (W : XW) : SM :=
  (mSeq (mAsg (mCall (sp__law_state K) W (mCons (mVar 0) mNil)) (gNm 1)) (mSeq (mAsg (mCall (sp__law_bodied K) W (mCons (mVar 1) (mCons (mC (.bl true)) (mCons (mC (.bl true)) mNil)))) (gNm 2)) (mSeq (mAsg (mCall (sp__law_body K) W (mCons (mVar 1) (mCons (mVar 2) mNil))) (gNm 3)) (mSeq (mAsg (mCall (sp__law_words K) W (mCons (mVar 1) (mCons (mVar 2) mNil))) (gNm 4)) (mSeq (mAsg (mCall (sp__law_program K) W (mCons (mVar 2) mNil)) (gNm 5)) (mSeq (mAsg (mFz (mCall (sp__law_table_of K) W (mCons (mVar 2) (mCons (mVar 3) mNil)))) (gNm 6)) (mSeq (mFor (iSeq (mCall (sp__law_sets K) W (mCons (mCB vLen (mCons (mVar 4) mNil)) mNil))) (gNm 7)
    (mSeq (mAsg (mCall (sp__law_named K) W (mCons (mVar 2) (mCons (mVar 7) mNil))) (gNm 8)) (mIf (mNot (mTru (mCall (sp__law_flag K) W (mCons (mCall (sp_is_reason K) W (mCons (mVar 5) (mCons (mVar 4) (mCons (mVar 3) (mCons (mVar 8) mNil))))) (mCons (mCall (sp__law_fixed K) W (mCons (mVar 6) (mCons (mVar 4) (mCons (mVar 7) mNil)))) mNil)))))
    (mRet (mC (.bl false)))
    mNx))) (mSeq (mAsg (mCall (sp__law_sets K) W (mCons (mCB vLen (mCons (mVar 4) mNil)) mNil)) (gNm 9)) (mSeq (mFor (iRange1 (mCons (mC (.int 4)) mNil)) (gNm 10)
    (mSeq (mAsg (mOp vIx (mVar 9) (mCall (sp__law_draw K) W (mCons (mVar 1) (mCons (mCB vLen (mCons (mVar 9) mNil)) mNil)))) (gNm 7)) (mSeq (mAsg (mCall (sp__law_named K) W (mCons (mVar 2) (mCons (mVar 7) mNil))) (gNm 8)) (mSeq (mAsg (mNotV (mCall (sp__law_fixed K) W (mCons (mVar 6) (mCons (mVar 4) (mCons (mCall (sp__law_rest_of K) W (mCons (mVar 7) (mCons (mCB vLen (mCons (mVar 4) mNil)) mNil))) mNil))))) (gNm 11)) (mSeq (mAsg (mCall (sp_lever_words K) W (mCons (mVar 5) (mCons (mVar 4) (mCons (mVar 3) (mCons (mVar 8) mNil))))) (gNm 12)) (mSeq (mIf (mNot (mTru (mCall (sp__law_flag K) W (mCons (mCall (sp_is_lever K) W (mCons (mVar 5) (mCons (mVar 4) (mCons (mVar 3) (mCons (mVar 8) mNil))))) (mCons (mVar 11) mNil)))))
    (mRet (mC (.bl false)))
    mNx) (mSeq (mIf (mB (mOp vNe (mVar 12) (mCall (sp__law_first_lever K) W (mCons (mVar 6) (mCons (mVar 4) (mCons (mVar 7) mNil))))))
    (mRet (mC (.bl false)))
    mNx) (mIf (mB (mOp vEq (mOp vIs (mVar 12) (mC .non)) (mVar 11)))
    (mRet (mC (.bl false)))
    mNx)))))))) (mSeq (mAsg (mCall (sp__law_no_set K) W (mCons (mVar 1) (mCons (mVar 2) mNil))) (gNm 13)) (mSeq (mIf (mOr (mB (mOp vIsNot (mCall (sp_is_reason K) W (mCons (mVar 5) (mCons (mVar 4) (mCons (mVar 3) (mCons (mVar 13) mNil))))) (mC (.bl false)))) (mB (mOp vIsNot (mCall (sp_is_lever K) W (mCons (mVar 5) (mCons (mVar 4) (mCons (mVar 3) (mCons (mVar 13) mNil))))) (mC (.bl false)))))
    (mRet (mC (.bl false)))
    mNx) (mRet (mCall (sp__law_refused K) W (mCons (mVar 5) (mCons (mVar 4) (mCons (mVar 3) (mCons (mVar 13) mNil)))))))))))))))))
theorem sc_law : FnScope ["_law_script", "_law_state_here", "_law_parts_here", "_law_name", "_law_words_here", "_law_program_here", "_law_table", "_law_places", "_law_sources", "_law_all_sets", "_law_turn", "_law_due", "_law_told", "_law_wrong"] ["_law_script"] (defScope st_law) := ⟨rfl, rfl, rfl, by decide +kernel, rfl, by decide +kernel, by decide +kernel⟩
def sp_law (K : PySem.W.Frag) : SpD := spB 1 13 (b_law K)
theorem fn_law (T : Tz fac fns sups PG_.main.file exns K mg) {fd : FuncData} (F : FunD K df_law.name df_law.qual df_law.params df_law.body df_law.scope (df_law.dvs K) (df_law.kws K) (He.fAd K df_law.at_) fd) :
    FnOk PG_ w K mg base (L2.CX PG_ w) 28 (He.ga K "law") fd ["_law_script"] (spOf K PG_ w (sp_law K)) := by
  refine ok_def0 (k := 27) F sc_law rfl rfl fun cdv A outer s H E hr X eX W tk po => ?_
  subst eX
  unfold b_law
  exact (mss_cons (ms_set (i := 1) (me_fn (ok__law_state T) (hr.mono (by omega)) tk (T.glo 79) (ma_cons (me_var 0 (pv 0)) ma_nil)) fun h => ps_set sc_law.nd rfl (by first | exact .inl rfl | exact .inr rfl) h)
    (mss_cons (ms_set (i := 2) (me_fn (ok__law_bodied T) (hr.mono (by omega)) tk (T.glo 80) (ma_cons (me_var 1 (pv 1)) (ma_cons me_bl (ma_cons me_bl ma_nil)))) fun h => ps_set sc_law.nd rfl (by first | exact .inl rfl | exact .inr rfl) h)
    (mss_cons (ms_set (i := 3) (me_fn (ok__law_body T) (hr.mono (by omega)) tk (T.glo 81) (ma_cons (me_var 1 (pv 1)) (ma_cons (me_var 2 (pv 2)) ma_nil))) fun h => ps_set sc_law.nd rfl (by first | exact .inl rfl | exact .inr rfl) h)
    (mss_cons (ms_set (i := 4) (me_fn (ok__law_words T) (hr.mono (by omega)) tk (T.glo 82) (ma_cons (me_var 1 (pv 1)) (ma_cons (me_var 2 (pv 2)) ma_nil))) fun h => ps_set sc_law.nd rfl (by first | exact .inl rfl | exact .inr rfl) h)
    (mss_cons (ms_set (i := 5) (me_fn (ok__law_program T) (hr.mono (by omega)) tk (T.glo 83) (ma_cons (me_var 2 (pv 2)) ma_nil)) fun h => ps_set sc_law.nd rfl (by first | exact .inl rfl | exact .inr rfl) h)
    (mss_cons (ms_set (i := 6) (me_fz (me_fn (ok__law_table_of T) (hr.mono (by omega)) tk (T.glo 84) (ma_cons (me_var 2 (pv 2)) (ma_cons (me_var 3 (pv 3)) ma_nil)))) fun h => ps_set sc_law.nd rfl (by first | exact .inl rfl | exact .inr rfl) h)
    (mss_cons (ms_for po rfl (mi_seq (me_fn (ok__law_sets T) (hr.mono (by omega)) tk (T.glo 85) (ma_cons (me_callB cd_len (ma_cons (me_var 4 (pv 4)) ma_nil) fun h1 h2 => pe_callB h1 rfl (T.free 13) boot_len h2) ma_nil))) (mg_name (pg_name sc_law.nd rfl (by first | exact .inl rfl | exact .inr rfl)))
    (mss_cons (ms_set (i := 8) (me_fn (ok__law_named T) (hr.mono (by omega)) tk (T.glo 86) (ma_cons (me_var 2 (pv 2)) (ma_cons (me_var 7 (pv 7)) ma_nil))) fun h => ps_set sc_law.nd rfl (by first | exact .inl rfl | exact .inr rfl) h)
    (mss_one (ms_if (mt_not (mt_tru (me_fn (ok__law_flag T) (hr.mono (by omega)) tk (T.glo 89) (ma_cons (me_fn (ok_is_reason T) (hr.mono (by omega)) tk (T.glo 88) (ma_cons (me_var 5 (pv 5)) (ma_cons (me_var 4 (pv 4)) (ma_cons (me_var 3 (pv 3)) (ma_cons (me_var 8 (pv 8)) ma_nil))))) (ma_cons (me_fn (ok__law_fixed T) (hr.mono (by omega)) tk (T.glo 87) (ma_cons (me_var 6 (pv 6)) (ma_cons (me_var 4 (pv 4)) (ma_cons (me_var 7 (pv 7)) ma_nil)))) ma_nil)))))
    (mss_one (ms_ret me_bl))
    mss_nil))) (fun h1 h2 h3 => ps_for po rfl h1 h2 h3))
    (mss_cons (ms_set (i := 9) (me_fn (ok__law_sets T) (hr.mono (by omega)) tk (T.glo 85) (ma_cons (me_callB cd_len (ma_cons (me_var 4 (pv 4)) ma_nil) fun h1 h2 => pe_callB h1 rfl (T.free 13) boot_len h2) ma_nil)) fun h => ps_set sc_law.nd rfl (by first | exact .inl rfl | exact .inr rfl) h)
    (mss_cons (ms_for po rfl (mi_range1 (ma_cons me_int ma_nil) fun h => pi_range1 rfl (T.free 44) h) (mg_name (pg_name sc_law.nd rfl (by first | exact .inl rfl | exact .inr rfl)))
    (mss_cons (ms_set (i := 7) (me_ix (hu1 hr) (me_var 9 (pv 9)) (me_fn (ok__law_draw T) (hr.mono (by omega)) tk (T.glo 60) (ma_cons (me_var 1 (pv 1)) (ma_cons (me_callB cd_len (ma_cons (me_var 9 (pv 9)) ma_nil) fun h1 h2 => pe_callB h1 rfl (T.free 13) boot_len h2) ma_nil)))) fun h => ps_set sc_law.nd rfl (by first | exact .inl rfl | exact .inr rfl) h)
    (mss_cons (ms_set (i := 8) (me_fn (ok__law_named T) (hr.mono (by omega)) tk (T.glo 86) (ma_cons (me_var 2 (pv 2)) (ma_cons (me_var 7 (pv 7)) ma_nil))) fun h => ps_set sc_law.nd rfl (by first | exact .inl rfl | exact .inr rfl) h)
    (mss_cons (ms_set (i := 11) (me_not (me_fn (ok__law_fixed T) (hr.mono (by omega)) tk (T.glo 87) (ma_cons (me_var 6 (pv 6)) (ma_cons (me_var 4 (pv 4)) (ma_cons (me_fn (ok__law_rest_of T) (hr.mono (by omega)) tk (T.glo 75) (ma_cons (me_var 7 (pv 7)) (ma_cons (me_callB cd_len (ma_cons (me_var 4 (pv 4)) ma_nil) fun h1 h2 => pe_callB h1 rfl (T.free 13) boot_len h2) ma_nil))) ma_nil))))) fun h => ps_set sc_law.nd rfl (by first | exact .inl rfl | exact .inr rfl) h)
    (mss_cons (ms_set (i := 12) (me_fn (ok_lever_words T) (hr.mono (by omega)) tk (T.glo 77) (ma_cons (me_var 5 (pv 5)) (ma_cons (me_var 4 (pv 4)) (ma_cons (me_var 3 (pv 3)) (ma_cons (me_var 8 (pv 8)) ma_nil))))) fun h => ps_set sc_law.nd rfl (by first | exact .inl rfl | exact .inr rfl) h)
    (mss_cons (ms_if (mt_not (mt_tru (me_fn (ok__law_flag T) (hr.mono (by omega)) tk (T.glo 89) (ma_cons (me_fn (ok_is_lever T) (hr.mono (by omega)) tk (T.glo 90) (ma_cons (me_var 5 (pv 5)) (ma_cons (me_var 4 (pv 4)) (ma_cons (me_var 3 (pv 3)) (ma_cons (me_var 8 (pv 8)) ma_nil))))) (ma_cons (me_var 11 (pv 11)) ma_nil)))))
    (mss_one (ms_ret me_bl))
    mss_nil)
    (mss_cons (ms_if (mt_cmp (od_ne (hu64 hr)) (me_var 12 (pv 12)) (me_fn (ok__law_first_lever T) (hr.mono (by omega)) tk (T.glo 91) (ma_cons (me_var 6 (pv 6)) (ma_cons (me_var 4 (pv 4)) (ma_cons (me_var 7 (pv 7)) ma_nil)))))
    (mss_one (ms_ret me_bl))
    mss_nil)
    (mss_one (ms_if (mt_cmp (od_eq (hu64 hr)) (me_cmp od_is (me_var 12 (pv 12)) me_non) (me_var 11 (pv 11)))
    (mss_one (ms_ret me_bl))
    mss_nil)))))))) (fun h1 h2 h3 => ps_for po rfl h1 h2 h3))
    (mss_cons (ms_set (i := 13) (me_fn (ok__law_no_set T) (hr.mono (by omega)) tk (T.glo 92) (ma_cons (me_var 1 (pv 1)) (ma_cons (me_var 2 (pv 2)) ma_nil))) fun h => ps_set sc_law.nd rfl (by first | exact .inl rfl | exact .inr rfl) h)
    (mss_cons (ms_if (MW.mt (mw_or (mt_cmp od_isnot (me_fn (ok_is_reason T) (hr.mono (by omega)) tk (T.glo 88) (ma_cons (me_var 5 (pv 5)) (ma_cons (me_var 4 (pv 4)) (ma_cons (me_var 3 (pv 3)) (ma_cons (me_var 13 (pv 13)) ma_nil))))) me_bl) (mw_or1 (mt_cmp od_isnot (me_fn (ok_is_lever T) (hr.mono (by omega)) tk (T.glo 90) (ma_cons (me_var 5 (pv 5)) (ma_cons (me_var 4 (pv 4)) (ma_cons (me_var 3 (pv 3)) (ma_cons (me_var 13 (pv 13)) ma_nil))))) me_bl))))
    (mss_one (ms_ret me_bl))
    mss_nil)
    (mss_one (ms_ret (me_fn (ok__law_refused T) (hr.mono (by omega)) tk (T.glo 93) (ma_cons (me_var 5 (pv 5)) (ma_cons (me_var 4 (pv 4)) (ma_cons (me_var 3 (pv 3)) (ma_cons (me_var 13 (pv 13)) ma_nil))))))))))))))))))
theorem facts {h : Heap} {f : Addr} (X : K.In h) (G : h.Ns mainGlobals mg) (hfa : mg ("law" : Str) = some (.ref f)) (c : obsX fac fns sups PG_.main.file exns K = valX fns sups) :
    Tz fac fns sups PG_.main.file exns K mg ∧ ∃ fd : FuncData, (∀ (s : Shared) (v : Value), BindsTo s fd ⟨[v], []⟩ [("_law_script", v)]) ∧ ∀ base : Heap, FnOk PG_ w K mg base (L2.CX PG_ w) 28 f fd ["_law_script"] (spOf K PG_ w (sp_law K)) := by
  have T : Tz fac fns sups PG_.main.file exns K mg := Tz.mk' X G c
  obtain ⟨fd, F⟩ := T.df 67 (d := df_law)
  have e := hfa.symm.trans (T.glo 128 (x := "law"))
  cases e
  have b := FunD.bindsA (ps := ["_law_script"]) F fun _ _ _ _ _ _ us hl => match us, hl with | [_], _ => rfl
  exact ⟨T, fd, fun s v => b s [v] rfl, fun base => fn_law T F⟩
end
end K02

set_option Elab.async false
set_option linter.all false
set_option maxRecDepth 100000
set_option maxHeartbeats 1000000
/-! P2a: what the law's drawing helpers do, over the store. -/
namespace K02
open PySem PySem.Spec PyProof.Rows L2 DL
local macro_rules | `(tactic| walk_at "dl") => `(tactic| (repeat (first | with_reducible refine st_go ?_ | with_reducible refine s_seq ?_ | ((with_reducible apply s_var); (first | assumption | rfl)) | ((with_reducible apply s_ixT); (first | assumption | rfl)) | ((with_reducible apply s_kFld); (first | assumption | exact put_same | (refine (put_ne (by first | assumption | exact Ne.symm (by assumption))).trans ?_; first | assumption | exact put_same | (refine (put_ne (by first | assumption | exact Ne.symm (by assumption))).trans ?_; first | assumption | exact put_same | (refine (put_ne (by first | assumption | exact Ne.symm (by assumption))).trans ?_; first | assumption | exact put_same | (refine (put_ne (by first | assumption | exact Ne.symm (by assumption))).trans ?_; first | assumption | exact put_same))))); (first | assumption | rfl); (first | assumption | (apply_assumption))) | ((with_reducible apply s_ixD); (first | assumption | exact put_same | (refine (put_ne (by first | assumption | exact Ne.symm (by assumption))).trans ?_; first | assumption | exact put_same | (refine (put_ne (by first | assumption | exact Ne.symm (by assumption))).trans ?_; first | assumption | exact put_same | (refine (put_ne (by first | assumption | exact Ne.symm (by assumption))).trans ?_; first | assumption | exact put_same | (refine (put_ne (by first | assumption | exact Ne.symm (by assumption))).trans ?_; first | assumption | exact put_same))))); (first | assumption | rfl); (first | assumption | rfl)) | ((with_reducible apply s_kMe1); (first | assumption | exact put_same | (refine (put_ne (by first | assumption | exact Ne.symm (by assumption))).trans ?_; first | assumption | exact put_same | (refine (put_ne (by first | assumption | exact Ne.symm (by assumption))).trans ?_; first | assumption | exact put_same | (refine (put_ne (by first | assumption | exact Ne.symm (by assumption))).trans ?_; first | assumption | exact put_same | (refine (put_ne (by first | assumption | exact Ne.symm (by assumption))).trans ?_; first | assumption | exact put_same))))); (first | assumption | rfl)) | ((with_reducible apply s_ixL); (first | assumption | exact put_same | (refine (put_ne (by first | assumption | exact Ne.symm (by assumption))).trans ?_; first | assumption | exact put_same | (refine (put_ne (by first | assumption | exact Ne.symm (by assumption))).trans ?_; first | assumption | exact put_same | (refine (put_ne (by first | assumption | exact Ne.symm (by assumption))).trans ?_; first | assumption | exact put_same | (refine (put_ne (by first | assumption | exact Ne.symm (by assumption))).trans ?_; first | assumption | exact put_same))))); (first | assumption | rfl)) | ((with_reducible apply s_kgIL); (first | assumption | exact put_same | (refine (put_ne (by first | assumption | exact Ne.symm (by assumption))).trans ?_; first | assumption | exact put_same | (refine (put_ne (by first | assumption | exact Ne.symm (by assumption))).trans ?_; first | assumption | exact put_same | (refine (put_ne (by first | assumption | exact Ne.symm (by assumption))).trans ?_; first | assumption | exact put_same | (refine (put_ne (by first | assumption | exact Ne.symm (by assumption))).trans ?_; first | assumption | exact put_same))))); (first | assumption | rfl)) | ((with_reducible apply s_aug); (first | assumption | rfl)) | ((with_reducible apply s_lenL); (first | assumption | exact put_same | (refine (put_ne (by first | assumption | exact Ne.symm (by assumption))).trans ?_; first | assumption | exact put_same | (refine (put_ne (by first | assumption | exact Ne.symm (by assumption))).trans ?_; first | assumption | exact put_same | (refine (put_ne (by first | assumption | exact Ne.symm (by assumption))).trans ?_; first | assumption | exact put_same | (refine (put_ne (by first | assumption | exact Ne.symm (by assumption))).trans ?_; first | assumption | exact put_same)))))) | ((with_reducible apply s_kGt1); (first | assumption | exact put_same | (refine (put_ne (by first | assumption | exact Ne.symm (by assumption))).trans ?_; first | assumption | exact put_same | (refine (put_ne (by first | assumption | exact Ne.symm (by assumption))).trans ?_; first | assumption | exact put_same | (refine (put_ne (by first | assumption | exact Ne.symm (by assumption))).trans ?_; first | assumption | exact put_same | (refine (put_ne (by first | assumption | exact Ne.symm (by assumption))).trans ?_; first | assumption | exact put_same)))))) | ((with_reducible apply s_kGt3); (first | assumption | exact put_same | (refine (put_ne (by first | assumption | exact Ne.symm (by assumption))).trans ?_; first | assumption | exact put_same | (refine (put_ne (by first | assumption | exact Ne.symm (by assumption))).trans ?_; first | assumption | exact put_same | (refine (put_ne (by first | assumption | exact Ne.symm (by assumption))).trans ?_; first | assumption | exact put_same | (refine (put_ne (by first | assumption | exact Ne.symm (by assumption))).trans ?_; first | assumption | exact put_same))))); (first | assumption | rfl)) | ((with_reducible apply s_isiT); (first | assumption | rfl)) | ((with_reducible apply s_isiS); (first | assumption | rfl)) | ((with_reducible apply s_mod); (first | assumption | omega | exact .inr ⟨by decide, by decide⟩ | exact .inl ⟨by decide, by decide⟩ | exact .inr ⟨by omega, by omega⟩ | exact .inl ⟨by omega, by omega⟩ | exact ⟨by decide, by decide +kernel⟩ | exact ⟨by decide, by decide, by decide⟩ | exact ⟨by assumption, by assumption⟩)) | ((with_reducible apply s_kMt1L); (first | assumption | exact put_same | (refine (put_ne (by first | assumption | exact Ne.symm (by assumption))).trans ?_; first | assumption | exact put_same | (refine (put_ne (by first | assumption | exact Ne.symm (by assumption))).trans ?_; first | assumption | exact put_same | (refine (put_ne (by first | assumption | exact Ne.symm (by assumption))).trans ?_; first | assumption | exact put_same | (refine (put_ne (by first | assumption | exact Ne.symm (by assumption))).trans ?_; first | assumption | exact put_same)))))) | ((with_reducible apply s_gT); (first | assumption | rfl)) | ((with_reducible apply s_ixR); (first | assumption | rfl)) | ((with_reducible apply s_ixS); (first | assumption | rfl)) | ((with_reducible apply s_kAs3); (first | assumption | exact put_same | (refine (put_ne (by first | assumption | exact Ne.symm (by assumption))).trans ?_; first | assumption | exact put_same | (refine (put_ne (by first | assumption | exact Ne.symm (by assumption))).trans ?_; first | assumption | exact put_same | (refine (put_ne (by first | assumption | exact Ne.symm (by assumption))).trans ?_; first | assumption | exact put_same | (refine (put_ne (by first | assumption | exact Ne.symm (by assumption))).trans ?_; first | assumption | exact put_same))))); (first | assumption | rfl)) | ((with_reducible apply s_kSeqL); (first | assumption | exact put_same | (refine (put_ne (by first | assumption | exact Ne.symm (by assumption))).trans ?_; first | assumption | exact put_same | (refine (put_ne (by first | assumption | exact Ne.symm (by assumption))).trans ?_; first | assumption | exact put_same | (refine (put_ne (by first | assumption | exact Ne.symm (by assumption))).trans ?_; first | assumption | exact put_same | (refine (put_ne (by first | assumption | exact Ne.symm (by assumption))).trans ?_; first | assumption | exact put_same)))))) | ((with_reducible apply s_kEnL); (first | assumption | exact put_same | (refine (put_ne (by first | assumption | exact Ne.symm (by assumption))).trans ?_; first | assumption | exact put_same | (refine (put_ne (by first | assumption | exact Ne.symm (by assumption))).trans ?_; first | assumption | exact put_same | (refine (put_ne (by first | assumption | exact Ne.symm (by assumption))).trans ?_; first | assumption | exact put_same | (refine (put_ne (by first | assumption | exact Ne.symm (by assumption))).trans ?_; first | assumption | exact put_same)))))) | ((with_reducible apply s_kAd1); (first | assumption | exact put_same | (refine (put_ne (by first | assumption | exact Ne.symm (by assumption))).trans ?_; first | assumption | exact put_same | (refine (put_ne (by first | assumption | exact Ne.symm (by assumption))).trans ?_; first | assumption | exact put_same | (refine (put_ne (by first | assumption | exact Ne.symm (by assumption))).trans ?_; first | assumption | exact put_same | (refine (put_ne (by first | assumption | exact Ne.symm (by assumption))).trans ?_; first | assumption | exact put_same)))))) | ((with_reducible apply s_tupleL); (first | assumption | exact put_same | (refine (put_ne (by first | assumption | exact Ne.symm (by assumption))).trans ?_; first | assumption | exact put_same | (refine (put_ne (by first | assumption | exact Ne.symm (by assumption))).trans ?_; first | assumption | exact put_same | (refine (put_ne (by first | assumption | exact Ne.symm (by assumption))).trans ?_; first | assumption | exact put_same | (refine (put_ne (by first | assumption | exact Ne.symm (by assumption))).trans ?_; first | assumption | exact put_same)))))) | ((with_reducible apply s_isiL); (first | assumption | exact put_same | (refine (put_ne (by first | assumption | exact Ne.symm (by assumption))).trans ?_; first | assumption | exact put_same | (refine (put_ne (by first | assumption | exact Ne.symm (by assumption))).trans ?_; first | assumption | exact put_same | (refine (put_ne (by first | assumption | exact Ne.symm (by assumption))).trans ?_; first | assumption | exact put_same | (refine (put_ne (by first | assumption | exact Ne.symm (by assumption))).trans ?_; first | assumption | exact put_same))))); (first | assumption | rfl)) | ((with_reducible apply s_mulI); (first | assumption | omega | exact .inr ⟨by decide, by decide⟩ | exact .inl ⟨by decide, by decide⟩ | exact .inr ⟨by omega, by omega⟩ | exact .inl ⟨by omega, by omega⟩ | exact ⟨by decide, by decide +kernel⟩ | exact ⟨by decide, by decide, by decide⟩ | exact ⟨by assumption, by assumption⟩)) | ((with_reducible apply s_fdiv); (first | assumption | omega | exact .inr ⟨by decide, by decide⟩ | exact .inl ⟨by decide, by decide⟩ | exact .inr ⟨by omega, by omega⟩ | exact .inl ⟨by omega, by omega⟩ | exact ⟨by decide, by decide +kernel⟩ | exact ⟨by decide, by decide, by decide⟩ | exact ⟨by assumption, by assumption⟩)) | ((with_reducible apply s_pow); (first | assumption | omega | exact .inr ⟨by decide, by decide⟩ | exact .inl ⟨by decide, by decide⟩ | exact .inr ⟨by omega, by omega⟩ | exact .inl ⟨by omega, by omega⟩ | exact ⟨by decide, by decide +kernel⟩ | exact ⟨by decide, by decide, by decide⟩ | exact ⟨by assumption, by assumption⟩)) | ((with_reducible apply s_lenD); (first | assumption | exact put_same | (refine (put_ne (by first | assumption | exact Ne.symm (by assumption))).trans ?_; first | assumption | exact put_same | (refine (put_ne (by first | assumption | exact Ne.symm (by assumption))).trans ?_; first | assumption | exact put_same | (refine (put_ne (by first | assumption | exact Ne.symm (by assumption))).trans ?_; first | assumption | exact put_same | (refine (put_ne (by first | assumption | exact Ne.symm (by assumption))).trans ?_; first | assumption | exact put_same)))))) | ((with_reducible apply s_tupN); (first | assumption | exact put_same | (refine (put_ne (by first | assumption | exact Ne.symm (by assumption))).trans ?_; first | assumption | exact put_same | (refine (put_ne (by first | assumption | exact Ne.symm (by assumption))).trans ?_; first | assumption | exact put_same | (refine (put_ne (by first | assumption | exact Ne.symm (by assumption))).trans ?_; first | assumption | exact put_same | (refine (put_ne (by first | assumption | exact Ne.symm (by assumption))).trans ?_; first | assumption | exact put_same)))))) | ((with_reducible apply s_kZL); (first | assumption | exact put_same | (refine (put_ne (by first | assumption | exact Ne.symm (by assumption))).trans ?_; first | assumption | exact put_same | (refine (put_ne (by first | assumption | exact Ne.symm (by assumption))).trans ?_; first | assumption | exact put_same | (refine (put_ne (by first | assumption | exact Ne.symm (by assumption))).trans ?_; first | assumption | exact put_same | (refine (put_ne (by first | assumption | exact Ne.symm (by assumption))).trans ?_; first | assumption | exact put_same))))); (first | assumption | exact put_same | (refine (put_ne (by first | assumption | exact Ne.symm (by assumption))).trans ?_; first | assumption | exact put_same | (refine (put_ne (by first | assumption | exact Ne.symm (by assumption))).trans ?_; first | assumption | exact put_same | (refine (put_ne (by first | assumption | exact Ne.symm (by assumption))).trans ?_; first | assumption | exact put_same | (refine (put_ne (by first | assumption | exact Ne.symm (by assumption))).trans ?_; first | assumption | exact put_same)))))) | ((with_reducible apply s_augSN); rfl; decide) | with_reducible refine s_kAsg ?_ | with_reducible refine s_ifB (fun h => absurd h (by decide +kernel)) (fun _ => ?_) | with_reducible refine s_ifB (fun _ => ?_) (fun h => absurd h (by decide +kernel)) | with_reducible refine s_kAndB (fun h => absurd h (by decide +kernel)) (fun _ => ?_) | with_reducible refine s_kAndB (fun _ => ?_) (fun h => absurd h (by decide +kernel)) | with_reducible refine s_kOrB (fun h => absurd h (by decide +kernel)) (fun _ => ?_) | with_reducible refine s_kOrB (fun _ => ?_) (fun h => absurd h (by decide +kernel)) | with_reducible refine s_kAndVB (fun h => absurd h (by decide +kernel)) (fun _ => ?_) | with_reducible refine s_kAndVB (fun _ => ?_) (fun h => absurd h (by decide +kernel)) | with_reducible refine s_kOrVB (fun h => absurd h (by decide +kernel)) (fun _ => ?_) | with_reducible refine s_kOrVB (fun _ => ?_) (fun h => absurd h (by decide +kernel)) | with_reducible refine s_kIfEB (fun h => absurd h (by decide +kernel)) (fun _ => ?_) | with_reducible refine s_kIfEB (fun _ => ?_) (fun h => absurd h (by decide +kernel)) | with_reducible refine s_kCh3B (fun h => absurd h (by decide +kernel)) (fun _ => ?_) | with_reducible refine s_kCh3B (fun _ => ?_) (fun h => absurd h (by decide +kernel)))))
local macro_rules | `(tactic| walk_at "dln") => `(tactic| (repeat (first | with_reducible refine st_go ?_ | ((with_reducible apply s_var); (first | assumption | rfl)) | ((with_reducible apply s_ixT); (first | assumption | rfl)) | ((with_reducible apply s_kFld); (first | assumption | exact put_same | (refine (put_ne (by first | assumption | exact Ne.symm (by assumption))).trans ?_; first | assumption | exact put_same | (refine (put_ne (by first | assumption | exact Ne.symm (by assumption))).trans ?_; first | assumption | exact put_same | (refine (put_ne (by first | assumption | exact Ne.symm (by assumption))).trans ?_; first | assumption | exact put_same | (refine (put_ne (by first | assumption | exact Ne.symm (by assumption))).trans ?_; first | assumption | exact put_same))))); (first | assumption | rfl); (first | assumption | (apply_assumption))) | ((with_reducible apply s_ixD); (first | assumption | exact put_same | (refine (put_ne (by first | assumption | exact Ne.symm (by assumption))).trans ?_; first | assumption | exact put_same | (refine (put_ne (by first | assumption | exact Ne.symm (by assumption))).trans ?_; first | assumption | exact put_same | (refine (put_ne (by first | assumption | exact Ne.symm (by assumption))).trans ?_; first | assumption | exact put_same | (refine (put_ne (by first | assumption | exact Ne.symm (by assumption))).trans ?_; first | assumption | exact put_same))))); (first | assumption | rfl); (first | assumption | rfl)) | ((with_reducible apply s_kMe1); (first | assumption | exact put_same | (refine (put_ne (by first | assumption | exact Ne.symm (by assumption))).trans ?_; first | assumption | exact put_same | (refine (put_ne (by first | assumption | exact Ne.symm (by assumption))).trans ?_; first | assumption | exact put_same | (refine (put_ne (by first | assumption | exact Ne.symm (by assumption))).trans ?_; first | assumption | exact put_same | (refine (put_ne (by first | assumption | exact Ne.symm (by assumption))).trans ?_; first | assumption | exact put_same))))); (first | assumption | rfl)) | ((with_reducible apply s_ixL); (first | assumption | exact put_same | (refine (put_ne (by first | assumption | exact Ne.symm (by assumption))).trans ?_; first | assumption | exact put_same | (refine (put_ne (by first | assumption | exact Ne.symm (by assumption))).trans ?_; first | assumption | exact put_same | (refine (put_ne (by first | assumption | exact Ne.symm (by assumption))).trans ?_; first | assumption | exact put_same | (refine (put_ne (by first | assumption | exact Ne.symm (by assumption))).trans ?_; first | assumption | exact put_same))))); (first | assumption | rfl)) | ((with_reducible apply s_kgIL); (first | assumption | exact put_same | (refine (put_ne (by first | assumption | exact Ne.symm (by assumption))).trans ?_; first | assumption | exact put_same | (refine (put_ne (by first | assumption | exact Ne.symm (by assumption))).trans ?_; first | assumption | exact put_same | (refine (put_ne (by first | assumption | exact Ne.symm (by assumption))).trans ?_; first | assumption | exact put_same | (refine (put_ne (by first | assumption | exact Ne.symm (by assumption))).trans ?_; first | assumption | exact put_same))))); (first | assumption | rfl)) | ((with_reducible apply s_aug); (first | assumption | rfl)) | ((with_reducible apply s_lenL); (first | assumption | exact put_same | (refine (put_ne (by first | assumption | exact Ne.symm (by assumption))).trans ?_; first | assumption | exact put_same | (refine (put_ne (by first | assumption | exact Ne.symm (by assumption))).trans ?_; first | assumption | exact put_same | (refine (put_ne (by first | assumption | exact Ne.symm (by assumption))).trans ?_; first | assumption | exact put_same | (refine (put_ne (by first | assumption | exact Ne.symm (by assumption))).trans ?_; first | assumption | exact put_same)))))) | ((with_reducible apply s_kGt1); (first | assumption | exact put_same | (refine (put_ne (by first | assumption | exact Ne.symm (by assumption))).trans ?_; first | assumption | exact put_same | (refine (put_ne (by first | assumption | exact Ne.symm (by assumption))).trans ?_; first | assumption | exact put_same | (refine (put_ne (by first | assumption | exact Ne.symm (by assumption))).trans ?_; first | assumption | exact put_same | (refine (put_ne (by first | assumption | exact Ne.symm (by assumption))).trans ?_; first | assumption | exact put_same)))))) | ((with_reducible apply s_kGt3); (first | assumption | exact put_same | (refine (put_ne (by first | assumption | exact Ne.symm (by assumption))).trans ?_; first | assumption | exact put_same | (refine (put_ne (by first | assumption | exact Ne.symm (by assumption))).trans ?_; first | assumption | exact put_same | (refine (put_ne (by first | assumption | exact Ne.symm (by assumption))).trans ?_; first | assumption | exact put_same | (refine (put_ne (by first | assumption | exact Ne.symm (by assumption))).trans ?_; first | assumption | exact put_same))))); (first | assumption | rfl)) | ((with_reducible apply s_isiT); (first | assumption | rfl)) | ((with_reducible apply s_isiS); (first | assumption | rfl)) | ((with_reducible apply s_mod); (first | assumption | omega | exact .inr ⟨by decide, by decide⟩ | exact .inl ⟨by decide, by decide⟩ | exact .inr ⟨by omega, by omega⟩ | exact .inl ⟨by omega, by omega⟩ | exact ⟨by decide, by decide +kernel⟩ | exact ⟨by decide, by decide, by decide⟩ | exact ⟨by assumption, by assumption⟩)) | ((with_reducible apply s_kMt1L); (first | assumption | exact put_same | (refine (put_ne (by first | assumption | exact Ne.symm (by assumption))).trans ?_; first | assumption | exact put_same | (refine (put_ne (by first | assumption | exact Ne.symm (by assumption))).trans ?_; first | assumption | exact put_same | (refine (put_ne (by first | assumption | exact Ne.symm (by assumption))).trans ?_; first | assumption | exact put_same | (refine (put_ne (by first | assumption | exact Ne.symm (by assumption))).trans ?_; first | assumption | exact put_same)))))) | ((with_reducible apply s_gT); (first | assumption | rfl)) | ((with_reducible apply s_ixR); (first | assumption | rfl)) | ((with_reducible apply s_ixS); (first | assumption | rfl)) | ((with_reducible apply s_kAs3); (first | assumption | exact put_same | (refine (put_ne (by first | assumption | exact Ne.symm (by assumption))).trans ?_; first | assumption | exact put_same | (refine (put_ne (by first | assumption | exact Ne.symm (by assumption))).trans ?_; first | assumption | exact put_same | (refine (put_ne (by first | assumption | exact Ne.symm (by assumption))).trans ?_; first | assumption | exact put_same | (refine (put_ne (by first | assumption | exact Ne.symm (by assumption))).trans ?_; first | assumption | exact put_same))))); (first | assumption | rfl)) | ((with_reducible apply s_kSeqL); (first | assumption | exact put_same | (refine (put_ne (by first | assumption | exact Ne.symm (by assumption))).trans ?_; first | assumption | exact put_same | (refine (put_ne (by first | assumption | exact Ne.symm (by assumption))).trans ?_; first | assumption | exact put_same | (refine (put_ne (by first | assumption | exact Ne.symm (by assumption))).trans ?_; first | assumption | exact put_same | (refine (put_ne (by first | assumption | exact Ne.symm (by assumption))).trans ?_; first | assumption | exact put_same)))))) | ((with_reducible apply s_kEnL); (first | assumption | exact put_same | (refine (put_ne (by first | assumption | exact Ne.symm (by assumption))).trans ?_; first | assumption | exact put_same | (refine (put_ne (by first | assumption | exact Ne.symm (by assumption))).trans ?_; first | assumption | exact put_same | (refine (put_ne (by first | assumption | exact Ne.symm (by assumption))).trans ?_; first | assumption | exact put_same | (refine (put_ne (by first | assumption | exact Ne.symm (by assumption))).trans ?_; first | assumption | exact put_same)))))) | ((with_reducible apply s_kAd1); (first | assumption | exact put_same | (refine (put_ne (by first | assumption | exact Ne.symm (by assumption))).trans ?_; first | assumption | exact put_same | (refine (put_ne (by first | assumption | exact Ne.symm (by assumption))).trans ?_; first | assumption | exact put_same | (refine (put_ne (by first | assumption | exact Ne.symm (by assumption))).trans ?_; first | assumption | exact put_same | (refine (put_ne (by first | assumption | exact Ne.symm (by assumption))).trans ?_; first | assumption | exact put_same)))))) | ((with_reducible apply s_tupleL); (first | assumption | exact put_same | (refine (put_ne (by first | assumption | exact Ne.symm (by assumption))).trans ?_; first | assumption | exact put_same | (refine (put_ne (by first | assumption | exact Ne.symm (by assumption))).trans ?_; first | assumption | exact put_same | (refine (put_ne (by first | assumption | exact Ne.symm (by assumption))).trans ?_; first | assumption | exact put_same | (refine (put_ne (by first | assumption | exact Ne.symm (by assumption))).trans ?_; first | assumption | exact put_same)))))) | ((with_reducible apply s_isiL); (first | assumption | exact put_same | (refine (put_ne (by first | assumption | exact Ne.symm (by assumption))).trans ?_; first | assumption | exact put_same | (refine (put_ne (by first | assumption | exact Ne.symm (by assumption))).trans ?_; first | assumption | exact put_same | (refine (put_ne (by first | assumption | exact Ne.symm (by assumption))).trans ?_; first | assumption | exact put_same | (refine (put_ne (by first | assumption | exact Ne.symm (by assumption))).trans ?_; first | assumption | exact put_same))))); (first | assumption | rfl)) | ((with_reducible apply s_mulI); (first | assumption | omega | exact .inr ⟨by decide, by decide⟩ | exact .inl ⟨by decide, by decide⟩ | exact .inr ⟨by omega, by omega⟩ | exact .inl ⟨by omega, by omega⟩ | exact ⟨by decide, by decide +kernel⟩ | exact ⟨by decide, by decide, by decide⟩ | exact ⟨by assumption, by assumption⟩)) | ((with_reducible apply s_fdiv); (first | assumption | omega | exact .inr ⟨by decide, by decide⟩ | exact .inl ⟨by decide, by decide⟩ | exact .inr ⟨by omega, by omega⟩ | exact .inl ⟨by omega, by omega⟩ | exact ⟨by decide, by decide +kernel⟩ | exact ⟨by decide, by decide, by decide⟩ | exact ⟨by assumption, by assumption⟩)) | ((with_reducible apply s_pow); (first | assumption | omega | exact .inr ⟨by decide, by decide⟩ | exact .inl ⟨by decide, by decide⟩ | exact .inr ⟨by omega, by omega⟩ | exact .inl ⟨by omega, by omega⟩ | exact ⟨by decide, by decide +kernel⟩ | exact ⟨by decide, by decide, by decide⟩ | exact ⟨by assumption, by assumption⟩)) | ((with_reducible apply s_lenD); (first | assumption | exact put_same | (refine (put_ne (by first | assumption | exact Ne.symm (by assumption))).trans ?_; first | assumption | exact put_same | (refine (put_ne (by first | assumption | exact Ne.symm (by assumption))).trans ?_; first | assumption | exact put_same | (refine (put_ne (by first | assumption | exact Ne.symm (by assumption))).trans ?_; first | assumption | exact put_same | (refine (put_ne (by first | assumption | exact Ne.symm (by assumption))).trans ?_; first | assumption | exact put_same)))))) | ((with_reducible apply s_tupN); (first | assumption | exact put_same | (refine (put_ne (by first | assumption | exact Ne.symm (by assumption))).trans ?_; first | assumption | exact put_same | (refine (put_ne (by first | assumption | exact Ne.symm (by assumption))).trans ?_; first | assumption | exact put_same | (refine (put_ne (by first | assumption | exact Ne.symm (by assumption))).trans ?_; first | assumption | exact put_same | (refine (put_ne (by first | assumption | exact Ne.symm (by assumption))).trans ?_; first | assumption | exact put_same)))))) | ((with_reducible apply s_kZL); (first | assumption | exact put_same | (refine (put_ne (by first | assumption | exact Ne.symm (by assumption))).trans ?_; first | assumption | exact put_same | (refine (put_ne (by first | assumption | exact Ne.symm (by assumption))).trans ?_; first | assumption | exact put_same | (refine (put_ne (by first | assumption | exact Ne.symm (by assumption))).trans ?_; first | assumption | exact put_same | (refine (put_ne (by first | assumption | exact Ne.symm (by assumption))).trans ?_; first | assumption | exact put_same))))); (first | assumption | exact put_same | (refine (put_ne (by first | assumption | exact Ne.symm (by assumption))).trans ?_; first | assumption | exact put_same | (refine (put_ne (by first | assumption | exact Ne.symm (by assumption))).trans ?_; first | assumption | exact put_same | (refine (put_ne (by first | assumption | exact Ne.symm (by assumption))).trans ?_; first | assumption | exact put_same | (refine (put_ne (by first | assumption | exact Ne.symm (by assumption))).trans ?_; first | assumption | exact put_same)))))) | ((with_reducible apply s_augSN); rfl; decide) | with_reducible refine s_kAsg ?_ | with_reducible refine s_ifB (fun h => absurd h (by decide +kernel)) (fun _ => ?_) | with_reducible refine s_ifB (fun _ => ?_) (fun h => absurd h (by decide +kernel)) | with_reducible refine s_kAndB (fun h => absurd h (by decide +kernel)) (fun _ => ?_) | with_reducible refine s_kAndB (fun _ => ?_) (fun h => absurd h (by decide +kernel)) | with_reducible refine s_kOrB (fun h => absurd h (by decide +kernel)) (fun _ => ?_) | with_reducible refine s_kOrB (fun _ => ?_) (fun h => absurd h (by decide +kernel)) | with_reducible refine s_kAndVB (fun h => absurd h (by decide +kernel)) (fun _ => ?_) | with_reducible refine s_kAndVB (fun _ => ?_) (fun h => absurd h (by decide +kernel)) | with_reducible refine s_kOrVB (fun h => absurd h (by decide +kernel)) (fun _ => ?_) | with_reducible refine s_kOrVB (fun _ => ?_) (fun h => absurd h (by decide +kernel)) | with_reducible refine s_kIfEB (fun h => absurd h (by decide +kernel)) (fun _ => ?_) | with_reducible refine s_kIfEB (fun _ => ?_) (fun h => absurd h (by decide +kernel)) | with_reducible refine s_kCh3B (fun h => absurd h (by decide +kernel)) (fun _ => ?_) | with_reducible refine s_kCh3B (fun _ => ?_) (fun h => absurd h (by decide +kernel)))))
local macro_rules | `(tactic| walk_at "dm") => `(tactic| (repeat (first | with_reducible refine st_go ?_ | with_reducible refine s_seq ?_ | ((with_reducible apply s_var); (first | assumption | rfl)) | ((with_reducible apply s_ixT); (first | assumption | rfl)) | ((with_reducible apply s_kFld); (first | assumption | exact put_same | (refine (put_ne (by first | assumption | exact Ne.symm (by assumption))).trans ?_; first | assumption | exact put_same | (refine (put_ne (by first | assumption | exact Ne.symm (by assumption))).trans ?_; first | assumption | exact put_same | (refine (put_ne (by first | assumption | exact Ne.symm (by assumption))).trans ?_; first | assumption | exact put_same | (refine (put_ne (by first | assumption | exact Ne.symm (by assumption))).trans ?_; first | assumption | exact put_same))))); (first | assumption | rfl); (first | assumption | (apply_assumption))) | ((with_reducible apply s_ixD); (first | assumption | exact put_same | (refine (put_ne (by first | assumption | exact Ne.symm (by assumption))).trans ?_; first | assumption | exact put_same | (refine (put_ne (by first | assumption | exact Ne.symm (by assumption))).trans ?_; first | assumption | exact put_same | (refine (put_ne (by first | assumption | exact Ne.symm (by assumption))).trans ?_; first | assumption | exact put_same | (refine (put_ne (by first | assumption | exact Ne.symm (by assumption))).trans ?_; first | assumption | exact put_same))))); (first | assumption | rfl); (first | assumption | rfl)) | ((with_reducible apply s_kMe1); (first | assumption | exact put_same | (refine (put_ne (by first | assumption | exact Ne.symm (by assumption))).trans ?_; first | assumption | exact put_same | (refine (put_ne (by first | assumption | exact Ne.symm (by assumption))).trans ?_; first | assumption | exact put_same | (refine (put_ne (by first | assumption | exact Ne.symm (by assumption))).trans ?_; first | assumption | exact put_same | (refine (put_ne (by first | assumption | exact Ne.symm (by assumption))).trans ?_; first | assumption | exact put_same))))); (first | assumption | rfl)) | ((with_reducible apply s_ixL); (first | assumption | exact put_same | (refine (put_ne (by first | assumption | exact Ne.symm (by assumption))).trans ?_; first | assumption | exact put_same | (refine (put_ne (by first | assumption | exact Ne.symm (by assumption))).trans ?_; first | assumption | exact put_same | (refine (put_ne (by first | assumption | exact Ne.symm (by assumption))).trans ?_; first | assumption | exact put_same | (refine (put_ne (by first | assumption | exact Ne.symm (by assumption))).trans ?_; first | assumption | exact put_same))))); (first | assumption | rfl)) | ((with_reducible apply s_kgIL); (first | assumption | exact put_same | (refine (put_ne (by first | assumption | exact Ne.symm (by assumption))).trans ?_; first | assumption | exact put_same | (refine (put_ne (by first | assumption | exact Ne.symm (by assumption))).trans ?_; first | assumption | exact put_same | (refine (put_ne (by first | assumption | exact Ne.symm (by assumption))).trans ?_; first | assumption | exact put_same | (refine (put_ne (by first | assumption | exact Ne.symm (by assumption))).trans ?_; first | assumption | exact put_same))))); (first | assumption | rfl)) | ((with_reducible apply s_aug); (first | assumption | rfl)) | ((with_reducible apply s_lenL); (first | assumption | exact put_same | (refine (put_ne (by first | assumption | exact Ne.symm (by assumption))).trans ?_; first | assumption | exact put_same | (refine (put_ne (by first | assumption | exact Ne.symm (by assumption))).trans ?_; first | assumption | exact put_same | (refine (put_ne (by first | assumption | exact Ne.symm (by assumption))).trans ?_; first | assumption | exact put_same | (refine (put_ne (by first | assumption | exact Ne.symm (by assumption))).trans ?_; first | assumption | exact put_same)))))) | ((with_reducible apply s_kGt1); (first | assumption | exact put_same | (refine (put_ne (by first | assumption | exact Ne.symm (by assumption))).trans ?_; first | assumption | exact put_same | (refine (put_ne (by first | assumption | exact Ne.symm (by assumption))).trans ?_; first | assumption | exact put_same | (refine (put_ne (by first | assumption | exact Ne.symm (by assumption))).trans ?_; first | assumption | exact put_same | (refine (put_ne (by first | assumption | exact Ne.symm (by assumption))).trans ?_; first | assumption | exact put_same)))))) | ((with_reducible apply s_kGt3); (first | assumption | exact put_same | (refine (put_ne (by first | assumption | exact Ne.symm (by assumption))).trans ?_; first | assumption | exact put_same | (refine (put_ne (by first | assumption | exact Ne.symm (by assumption))).trans ?_; first | assumption | exact put_same | (refine (put_ne (by first | assumption | exact Ne.symm (by assumption))).trans ?_; first | assumption | exact put_same | (refine (put_ne (by first | assumption | exact Ne.symm (by assumption))).trans ?_; first | assumption | exact put_same))))); (first | assumption | rfl)) | ((with_reducible apply s_isiT); (first | assumption | rfl)) | ((with_reducible apply s_isiS); (first | assumption | rfl)) | ((with_reducible apply s_mod); (first | assumption | omega | exact .inr ⟨by decide, by decide⟩ | exact .inl ⟨by decide, by decide⟩ | exact .inr ⟨by omega, by omega⟩ | exact .inl ⟨by omega, by omega⟩ | exact ⟨by decide, by decide +kernel⟩ | exact ⟨by decide, by decide, by decide⟩ | exact ⟨by assumption, by assumption⟩)) | ((with_reducible apply s_kMt1L); (first | assumption | exact put_same | (refine (put_ne (by first | assumption | exact Ne.symm (by assumption))).trans ?_; first | assumption | exact put_same | (refine (put_ne (by first | assumption | exact Ne.symm (by assumption))).trans ?_; first | assumption | exact put_same | (refine (put_ne (by first | assumption | exact Ne.symm (by assumption))).trans ?_; first | assumption | exact put_same | (refine (put_ne (by first | assumption | exact Ne.symm (by assumption))).trans ?_; first | assumption | exact put_same)))))) | ((with_reducible apply s_gT); (first | assumption | rfl)) | ((with_reducible apply s_ixR); (first | assumption | rfl)) | ((with_reducible apply s_ixS); (first | assumption | rfl)) | ((with_reducible apply s_kAs3); (first | assumption | exact put_same | (refine (put_ne (by first | assumption | exact Ne.symm (by assumption))).trans ?_; first | assumption | exact put_same | (refine (put_ne (by first | assumption | exact Ne.symm (by assumption))).trans ?_; first | assumption | exact put_same | (refine (put_ne (by first | assumption | exact Ne.symm (by assumption))).trans ?_; first | assumption | exact put_same | (refine (put_ne (by first | assumption | exact Ne.symm (by assumption))).trans ?_; first | assumption | exact put_same))))); (first | assumption | rfl)) | ((with_reducible apply s_kSeqL); (first | assumption | exact put_same | (refine (put_ne (by first | assumption | exact Ne.symm (by assumption))).trans ?_; first | assumption | exact put_same | (refine (put_ne (by first | assumption | exact Ne.symm (by assumption))).trans ?_; first | assumption | exact put_same | (refine (put_ne (by first | assumption | exact Ne.symm (by assumption))).trans ?_; first | assumption | exact put_same | (refine (put_ne (by first | assumption | exact Ne.symm (by assumption))).trans ?_; first | assumption | exact put_same)))))) | ((with_reducible apply s_kEnL); (first | assumption | exact put_same | (refine (put_ne (by first | assumption | exact Ne.symm (by assumption))).trans ?_; first | assumption | exact put_same | (refine (put_ne (by first | assumption | exact Ne.symm (by assumption))).trans ?_; first | assumption | exact put_same | (refine (put_ne (by first | assumption | exact Ne.symm (by assumption))).trans ?_; first | assumption | exact put_same | (refine (put_ne (by first | assumption | exact Ne.symm (by assumption))).trans ?_; first | assumption | exact put_same)))))) | ((with_reducible apply s_kAd1); (first | assumption | exact put_same | (refine (put_ne (by first | assumption | exact Ne.symm (by assumption))).trans ?_; first | assumption | exact put_same | (refine (put_ne (by first | assumption | exact Ne.symm (by assumption))).trans ?_; first | assumption | exact put_same | (refine (put_ne (by first | assumption | exact Ne.symm (by assumption))).trans ?_; first | assumption | exact put_same | (refine (put_ne (by first | assumption | exact Ne.symm (by assumption))).trans ?_; first | assumption | exact put_same)))))) | ((with_reducible apply s_tupleL); (first | assumption | exact put_same | (refine (put_ne (by first | assumption | exact Ne.symm (by assumption))).trans ?_; first | assumption | exact put_same | (refine (put_ne (by first | assumption | exact Ne.symm (by assumption))).trans ?_; first | assumption | exact put_same | (refine (put_ne (by first | assumption | exact Ne.symm (by assumption))).trans ?_; first | assumption | exact put_same | (refine (put_ne (by first | assumption | exact Ne.symm (by assumption))).trans ?_; first | assumption | exact put_same)))))) | ((with_reducible apply s_isiL); (first | assumption | exact put_same | (refine (put_ne (by first | assumption | exact Ne.symm (by assumption))).trans ?_; first | assumption | exact put_same | (refine (put_ne (by first | assumption | exact Ne.symm (by assumption))).trans ?_; first | assumption | exact put_same | (refine (put_ne (by first | assumption | exact Ne.symm (by assumption))).trans ?_; first | assumption | exact put_same | (refine (put_ne (by first | assumption | exact Ne.symm (by assumption))).trans ?_; first | assumption | exact put_same))))); (first | assumption | rfl)) | ((with_reducible apply s_mulI); (first | assumption | omega | exact .inr ⟨by decide, by decide⟩ | exact .inl ⟨by decide, by decide⟩ | exact .inr ⟨by omega, by omega⟩ | exact .inl ⟨by omega, by omega⟩ | exact ⟨by decide, by decide +kernel⟩ | exact ⟨by decide, by decide, by decide⟩ | exact ⟨by assumption, by assumption⟩)) | ((with_reducible apply s_fdiv); (first | assumption | omega | exact .inr ⟨by decide, by decide⟩ | exact .inl ⟨by decide, by decide⟩ | exact .inr ⟨by omega, by omega⟩ | exact .inl ⟨by omega, by omega⟩ | exact ⟨by decide, by decide +kernel⟩ | exact ⟨by decide, by decide, by decide⟩ | exact ⟨by assumption, by assumption⟩)) | ((with_reducible apply s_pow); (first | assumption | omega | exact .inr ⟨by decide, by decide⟩ | exact .inl ⟨by decide, by decide⟩ | exact .inr ⟨by omega, by omega⟩ | exact .inl ⟨by omega, by omega⟩ | exact ⟨by decide, by decide +kernel⟩ | exact ⟨by decide, by decide, by decide⟩ | exact ⟨by assumption, by assumption⟩)) | ((with_reducible apply s_lenD); (first | assumption | exact put_same | (refine (put_ne (by first | assumption | exact Ne.symm (by assumption))).trans ?_; first | assumption | exact put_same | (refine (put_ne (by first | assumption | exact Ne.symm (by assumption))).trans ?_; first | assumption | exact put_same | (refine (put_ne (by first | assumption | exact Ne.symm (by assumption))).trans ?_; first | assumption | exact put_same | (refine (put_ne (by first | assumption | exact Ne.symm (by assumption))).trans ?_; first | assumption | exact put_same)))))) | ((with_reducible apply s_tupN); (first | assumption | exact put_same | (refine (put_ne (by first | assumption | exact Ne.symm (by assumption))).trans ?_; first | assumption | exact put_same | (refine (put_ne (by first | assumption | exact Ne.symm (by assumption))).trans ?_; first | assumption | exact put_same | (refine (put_ne (by first | assumption | exact Ne.symm (by assumption))).trans ?_; first | assumption | exact put_same | (refine (put_ne (by first | assumption | exact Ne.symm (by assumption))).trans ?_; first | assumption | exact put_same)))))) | ((with_reducible apply s_kZL); (first | assumption | exact put_same | (refine (put_ne (by first | assumption | exact Ne.symm (by assumption))).trans ?_; first | assumption | exact put_same | (refine (put_ne (by first | assumption | exact Ne.symm (by assumption))).trans ?_; first | assumption | exact put_same | (refine (put_ne (by first | assumption | exact Ne.symm (by assumption))).trans ?_; first | assumption | exact put_same | (refine (put_ne (by first | assumption | exact Ne.symm (by assumption))).trans ?_; first | assumption | exact put_same))))); (first | assumption | exact put_same | (refine (put_ne (by first | assumption | exact Ne.symm (by assumption))).trans ?_; first | assumption | exact put_same | (refine (put_ne (by first | assumption | exact Ne.symm (by assumption))).trans ?_; first | assumption | exact put_same | (refine (put_ne (by first | assumption | exact Ne.symm (by assumption))).trans ?_; first | assumption | exact put_same | (refine (put_ne (by first | assumption | exact Ne.symm (by assumption))).trans ?_; first | assumption | exact put_same)))))) | ((with_reducible apply s_augSN); rfl; decide) | with_reducible refine s_kAsg ?_ | with_reducible refine s_ifB (fun h => absurd h (by decide +kernel)) (fun _ => ?_) | with_reducible refine s_ifB (fun _ => ?_) (fun h => absurd h (by decide +kernel)) | with_reducible refine s_kAndB (fun h => absurd h (by decide +kernel)) (fun _ => ?_) | with_reducible refine s_kAndB (fun _ => ?_) (fun h => absurd h (by decide +kernel)) | with_reducible refine s_kOrB (fun h => absurd h (by decide +kernel)) (fun _ => ?_) | with_reducible refine s_kOrB (fun _ => ?_) (fun h => absurd h (by decide +kernel)) | with_reducible refine s_kAndVB (fun h => absurd h (by decide +kernel)) (fun _ => ?_) | with_reducible refine s_kAndVB (fun _ => ?_) (fun h => absurd h (by decide +kernel)) | with_reducible refine s_kOrVB (fun h => absurd h (by decide +kernel)) (fun _ => ?_) | with_reducible refine s_kOrVB (fun _ => ?_) (fun h => absurd h (by decide +kernel)) | with_reducible refine s_kIfEB (fun h => absurd h (by decide +kernel)) (fun _ => ?_) | with_reducible refine s_kIfEB (fun _ => ?_) (fun h => absurd h (by decide +kernel)) | with_reducible refine s_kCh3B (fun h => absurd h (by decide +kernel)) (fun _ => ?_) | with_reducible refine s_kCh3B (fun _ => ?_) (fun h => absurd h (by decide +kernel)) | with_reducible refine s_ifB (fun h => absurd h (by first | (simp; done) | (simp; omega))) (fun _ => ?_) | with_reducible refine s_ifB (fun _ => ?_) (fun h => absurd h (by first | (simp; done) | (simp; omega))) | with_reducible refine s_kAndB (fun h => absurd h (by first | (simp; done) | (simp; omega))) (fun _ => ?_) | with_reducible refine s_kAndB (fun _ => ?_) (fun h => absurd h (by first | (simp; done) | (simp; omega))) | with_reducible refine s_kOrB (fun h => absurd h (by first | (simp; done) | (simp; omega))) (fun _ => ?_) | with_reducible refine s_kOrB (fun _ => ?_) (fun h => absurd h (by first | (simp; done) | (simp; omega))) | with_reducible refine s_kAndVB (fun h => absurd h (by first | (simp; done) | (simp; omega))) (fun _ => ?_) | with_reducible refine s_kAndVB (fun _ => ?_) (fun h => absurd h (by first | (simp; done) | (simp; omega))) | with_reducible refine s_kOrVB (fun h => absurd h (by first | (simp; done) | (simp; omega))) (fun _ => ?_) | with_reducible refine s_kOrVB (fun _ => ?_) (fun h => absurd h (by first | (simp; done) | (simp; omega))) | with_reducible refine s_kIfEB (fun h => absurd h (by first | (simp; done) | (simp; omega))) (fun _ => ?_) | with_reducible refine s_kIfEB (fun _ => ?_) (fun h => absurd h (by first | (simp; done) | (simp; omega))) | with_reducible refine s_kCh3B (fun h => absurd h (by first | (simp; done) | (simp; omega))) (fun _ => ?_) | with_reducible refine s_kCh3B (fun _ => ?_) (fun h => absurd h (by first | (simp; done) | (simp; omega))))))
local macro_rules | `(tactic| walk_at "dmn") => `(tactic| (repeat (first | with_reducible refine st_go ?_ | ((with_reducible apply s_var); (first | assumption | rfl)) | ((with_reducible apply s_ixT); (first | assumption | rfl)) | ((with_reducible apply s_kFld); (first | assumption | exact put_same | (refine (put_ne (by first | assumption | exact Ne.symm (by assumption))).trans ?_; first | assumption | exact put_same | (refine (put_ne (by first | assumption | exact Ne.symm (by assumption))).trans ?_; first | assumption | exact put_same | (refine (put_ne (by first | assumption | exact Ne.symm (by assumption))).trans ?_; first | assumption | exact put_same | (refine (put_ne (by first | assumption | exact Ne.symm (by assumption))).trans ?_; first | assumption | exact put_same))))); (first | assumption | rfl); (first | assumption | (apply_assumption))) | ((with_reducible apply s_ixD); (first | assumption | exact put_same | (refine (put_ne (by first | assumption | exact Ne.symm (by assumption))).trans ?_; first | assumption | exact put_same | (refine (put_ne (by first | assumption | exact Ne.symm (by assumption))).trans ?_; first | assumption | exact put_same | (refine (put_ne (by first | assumption | exact Ne.symm (by assumption))).trans ?_; first | assumption | exact put_same | (refine (put_ne (by first | assumption | exact Ne.symm (by assumption))).trans ?_; first | assumption | exact put_same))))); (first | assumption | rfl); (first | assumption | rfl)) | ((with_reducible apply s_kMe1); (first | assumption | exact put_same | (refine (put_ne (by first | assumption | exact Ne.symm (by assumption))).trans ?_; first | assumption | exact put_same | (refine (put_ne (by first | assumption | exact Ne.symm (by assumption))).trans ?_; first | assumption | exact put_same | (refine (put_ne (by first | assumption | exact Ne.symm (by assumption))).trans ?_; first | assumption | exact put_same | (refine (put_ne (by first | assumption | exact Ne.symm (by assumption))).trans ?_; first | assumption | exact put_same))))); (first | assumption | rfl)) | ((with_reducible apply s_ixL); (first | assumption | exact put_same | (refine (put_ne (by first | assumption | exact Ne.symm (by assumption))).trans ?_; first | assumption | exact put_same | (refine (put_ne (by first | assumption | exact Ne.symm (by assumption))).trans ?_; first | assumption | exact put_same | (refine (put_ne (by first | assumption | exact Ne.symm (by assumption))).trans ?_; first | assumption | exact put_same | (refine (put_ne (by first | assumption | exact Ne.symm (by assumption))).trans ?_; first | assumption | exact put_same))))); (first | assumption | rfl)) | ((with_reducible apply s_kgIL); (first | assumption | exact put_same | (refine (put_ne (by first | assumption | exact Ne.symm (by assumption))).trans ?_; first | assumption | exact put_same | (refine (put_ne (by first | assumption | exact Ne.symm (by assumption))).trans ?_; first | assumption | exact put_same | (refine (put_ne (by first | assumption | exact Ne.symm (by assumption))).trans ?_; first | assumption | exact put_same | (refine (put_ne (by first | assumption | exact Ne.symm (by assumption))).trans ?_; first | assumption | exact put_same))))); (first | assumption | rfl)) | ((with_reducible apply s_aug); (first | assumption | rfl)) | ((with_reducible apply s_lenL); (first | assumption | exact put_same | (refine (put_ne (by first | assumption | exact Ne.symm (by assumption))).trans ?_; first | assumption | exact put_same | (refine (put_ne (by first | assumption | exact Ne.symm (by assumption))).trans ?_; first | assumption | exact put_same | (refine (put_ne (by first | assumption | exact Ne.symm (by assumption))).trans ?_; first | assumption | exact put_same | (refine (put_ne (by first | assumption | exact Ne.symm (by assumption))).trans ?_; first | assumption | exact put_same)))))) | ((with_reducible apply s_kGt1); (first | assumption | exact put_same | (refine (put_ne (by first | assumption | exact Ne.symm (by assumption))).trans ?_; first | assumption | exact put_same | (refine (put_ne (by first | assumption | exact Ne.symm (by assumption))).trans ?_; first | assumption | exact put_same | (refine (put_ne (by first | assumption | exact Ne.symm (by assumption))).trans ?_; first | assumption | exact put_same | (refine (put_ne (by first | assumption | exact Ne.symm (by assumption))).trans ?_; first | assumption | exact put_same)))))) | ((with_reducible apply s_kGt3); (first | assumption | exact put_same | (refine (put_ne (by first | assumption | exact Ne.symm (by assumption))).trans ?_; first | assumption | exact put_same | (refine (put_ne (by first | assumption | exact Ne.symm (by assumption))).trans ?_; first | assumption | exact put_same | (refine (put_ne (by first | assumption | exact Ne.symm (by assumption))).trans ?_; first | assumption | exact put_same | (refine (put_ne (by first | assumption | exact Ne.symm (by assumption))).trans ?_; first | assumption | exact put_same))))); (first | assumption | rfl)) | ((with_reducible apply s_isiT); (first | assumption | rfl)) | ((with_reducible apply s_isiS); (first | assumption | rfl)) | ((with_reducible apply s_mod); (first | assumption | omega | exact .inr ⟨by decide, by decide⟩ | exact .inl ⟨by decide, by decide⟩ | exact .inr ⟨by omega, by omega⟩ | exact .inl ⟨by omega, by omega⟩ | exact ⟨by decide, by decide +kernel⟩ | exact ⟨by decide, by decide, by decide⟩ | exact ⟨by assumption, by assumption⟩)) | ((with_reducible apply s_kMt1L); (first | assumption | exact put_same | (refine (put_ne (by first | assumption | exact Ne.symm (by assumption))).trans ?_; first | assumption | exact put_same | (refine (put_ne (by first | assumption | exact Ne.symm (by assumption))).trans ?_; first | assumption | exact put_same | (refine (put_ne (by first | assumption | exact Ne.symm (by assumption))).trans ?_; first | assumption | exact put_same | (refine (put_ne (by first | assumption | exact Ne.symm (by assumption))).trans ?_; first | assumption | exact put_same)))))) | ((with_reducible apply s_gT); (first | assumption | rfl)) | ((with_reducible apply s_ixR); (first | assumption | rfl)) | ((with_reducible apply s_ixS); (first | assumption | rfl)) | ((with_reducible apply s_kAs3); (first | assumption | exact put_same | (refine (put_ne (by first | assumption | exact Ne.symm (by assumption))).trans ?_; first | assumption | exact put_same | (refine (put_ne (by first | assumption | exact Ne.symm (by assumption))).trans ?_; first | assumption | exact put_same | (refine (put_ne (by first | assumption | exact Ne.symm (by assumption))).trans ?_; first | assumption | exact put_same | (refine (put_ne (by first | assumption | exact Ne.symm (by assumption))).trans ?_; first | assumption | exact put_same))))); (first | assumption | rfl)) | ((with_reducible apply s_kSeqL); (first | assumption | exact put_same | (refine (put_ne (by first | assumption | exact Ne.symm (by assumption))).trans ?_; first | assumption | exact put_same | (refine (put_ne (by first | assumption | exact Ne.symm (by assumption))).trans ?_; first | assumption | exact put_same | (refine (put_ne (by first | assumption | exact Ne.symm (by assumption))).trans ?_; first | assumption | exact put_same | (refine (put_ne (by first | assumption | exact Ne.symm (by assumption))).trans ?_; first | assumption | exact put_same)))))) | ((with_reducible apply s_kEnL); (first | assumption | exact put_same | (refine (put_ne (by first | assumption | exact Ne.symm (by assumption))).trans ?_; first | assumption | exact put_same | (refine (put_ne (by first | assumption | exact Ne.symm (by assumption))).trans ?_; first | assumption | exact put_same | (refine (put_ne (by first | assumption | exact Ne.symm (by assumption))).trans ?_; first | assumption | exact put_same | (refine (put_ne (by first | assumption | exact Ne.symm (by assumption))).trans ?_; first | assumption | exact put_same)))))) | ((with_reducible apply s_kAd1); (first | assumption | exact put_same | (refine (put_ne (by first | assumption | exact Ne.symm (by assumption))).trans ?_; first | assumption | exact put_same | (refine (put_ne (by first | assumption | exact Ne.symm (by assumption))).trans ?_; first | assumption | exact put_same | (refine (put_ne (by first | assumption | exact Ne.symm (by assumption))).trans ?_; first | assumption | exact put_same | (refine (put_ne (by first | assumption | exact Ne.symm (by assumption))).trans ?_; first | assumption | exact put_same)))))) | ((with_reducible apply s_tupleL); (first | assumption | exact put_same | (refine (put_ne (by first | assumption | exact Ne.symm (by assumption))).trans ?_; first | assumption | exact put_same | (refine (put_ne (by first | assumption | exact Ne.symm (by assumption))).trans ?_; first | assumption | exact put_same | (refine (put_ne (by first | assumption | exact Ne.symm (by assumption))).trans ?_; first | assumption | exact put_same | (refine (put_ne (by first | assumption | exact Ne.symm (by assumption))).trans ?_; first | assumption | exact put_same)))))) | ((with_reducible apply s_isiL); (first | assumption | exact put_same | (refine (put_ne (by first | assumption | exact Ne.symm (by assumption))).trans ?_; first | assumption | exact put_same | (refine (put_ne (by first | assumption | exact Ne.symm (by assumption))).trans ?_; first | assumption | exact put_same | (refine (put_ne (by first | assumption | exact Ne.symm (by assumption))).trans ?_; first | assumption | exact put_same | (refine (put_ne (by first | assumption | exact Ne.symm (by assumption))).trans ?_; first | assumption | exact put_same))))); (first | assumption | rfl)) | ((with_reducible apply s_mulI); (first | assumption | omega | exact .inr ⟨by decide, by decide⟩ | exact .inl ⟨by decide, by decide⟩ | exact .inr ⟨by omega, by omega⟩ | exact .inl ⟨by omega, by omega⟩ | exact ⟨by decide, by decide +kernel⟩ | exact ⟨by decide, by decide, by decide⟩ | exact ⟨by assumption, by assumption⟩)) | ((with_reducible apply s_fdiv); (first | assumption | omega | exact .inr ⟨by decide, by decide⟩ | exact .inl ⟨by decide, by decide⟩ | exact .inr ⟨by omega, by omega⟩ | exact .inl ⟨by omega, by omega⟩ | exact ⟨by decide, by decide +kernel⟩ | exact ⟨by decide, by decide, by decide⟩ | exact ⟨by assumption, by assumption⟩)) | ((with_reducible apply s_pow); (first | assumption | omega | exact .inr ⟨by decide, by decide⟩ | exact .inl ⟨by decide, by decide⟩ | exact .inr ⟨by omega, by omega⟩ | exact .inl ⟨by omega, by omega⟩ | exact ⟨by decide, by decide +kernel⟩ | exact ⟨by decide, by decide, by decide⟩ | exact ⟨by assumption, by assumption⟩)) | ((with_reducible apply s_lenD); (first | assumption | exact put_same | (refine (put_ne (by first | assumption | exact Ne.symm (by assumption))).trans ?_; first | assumption | exact put_same | (refine (put_ne (by first | assumption | exact Ne.symm (by assumption))).trans ?_; first | assumption | exact put_same | (refine (put_ne (by first | assumption | exact Ne.symm (by assumption))).trans ?_; first | assumption | exact put_same | (refine (put_ne (by first | assumption | exact Ne.symm (by assumption))).trans ?_; first | assumption | exact put_same)))))) | ((with_reducible apply s_tupN); (first | assumption | exact put_same | (refine (put_ne (by first | assumption | exact Ne.symm (by assumption))).trans ?_; first | assumption | exact put_same | (refine (put_ne (by first | assumption | exact Ne.symm (by assumption))).trans ?_; first | assumption | exact put_same | (refine (put_ne (by first | assumption | exact Ne.symm (by assumption))).trans ?_; first | assumption | exact put_same | (refine (put_ne (by first | assumption | exact Ne.symm (by assumption))).trans ?_; first | assumption | exact put_same)))))) | ((with_reducible apply s_kZL); (first | assumption | exact put_same | (refine (put_ne (by first | assumption | exact Ne.symm (by assumption))).trans ?_; first | assumption | exact put_same | (refine (put_ne (by first | assumption | exact Ne.symm (by assumption))).trans ?_; first | assumption | exact put_same | (refine (put_ne (by first | assumption | exact Ne.symm (by assumption))).trans ?_; first | assumption | exact put_same | (refine (put_ne (by first | assumption | exact Ne.symm (by assumption))).trans ?_; first | assumption | exact put_same))))); (first | assumption | exact put_same | (refine (put_ne (by first | assumption | exact Ne.symm (by assumption))).trans ?_; first | assumption | exact put_same | (refine (put_ne (by first | assumption | exact Ne.symm (by assumption))).trans ?_; first | assumption | exact put_same | (refine (put_ne (by first | assumption | exact Ne.symm (by assumption))).trans ?_; first | assumption | exact put_same | (refine (put_ne (by first | assumption | exact Ne.symm (by assumption))).trans ?_; first | assumption | exact put_same)))))) | ((with_reducible apply s_augSN); rfl; decide) | with_reducible refine s_kAsg ?_ | with_reducible refine s_ifB (fun h => absurd h (by decide +kernel)) (fun _ => ?_) | with_reducible refine s_ifB (fun _ => ?_) (fun h => absurd h (by decide +kernel)) | with_reducible refine s_kAndB (fun h => absurd h (by decide +kernel)) (fun _ => ?_) | with_reducible refine s_kAndB (fun _ => ?_) (fun h => absurd h (by decide +kernel)) | with_reducible refine s_kOrB (fun h => absurd h (by decide +kernel)) (fun _ => ?_) | with_reducible refine s_kOrB (fun _ => ?_) (fun h => absurd h (by decide +kernel)) | with_reducible refine s_kAndVB (fun h => absurd h (by decide +kernel)) (fun _ => ?_) | with_reducible refine s_kAndVB (fun _ => ?_) (fun h => absurd h (by decide +kernel)) | with_reducible refine s_kOrVB (fun h => absurd h (by decide +kernel)) (fun _ => ?_) | with_reducible refine s_kOrVB (fun _ => ?_) (fun h => absurd h (by decide +kernel)) | with_reducible refine s_kIfEB (fun h => absurd h (by decide +kernel)) (fun _ => ?_) | with_reducible refine s_kIfEB (fun _ => ?_) (fun h => absurd h (by decide +kernel)) | with_reducible refine s_kCh3B (fun h => absurd h (by decide +kernel)) (fun _ => ?_) | with_reducible refine s_kCh3B (fun _ => ?_) (fun h => absurd h (by decide +kernel)) | with_reducible refine s_ifB (fun h => absurd h (by first | (simp; done) | (simp; omega))) (fun _ => ?_) | with_reducible refine s_ifB (fun _ => ?_) (fun h => absurd h (by first | (simp; done) | (simp; omega))) | with_reducible refine s_kAndB (fun h => absurd h (by first | (simp; done) | (simp; omega))) (fun _ => ?_) | with_reducible refine s_kAndB (fun _ => ?_) (fun h => absurd h (by first | (simp; done) | (simp; omega))) | with_reducible refine s_kOrB (fun h => absurd h (by first | (simp; done) | (simp; omega))) (fun _ => ?_) | with_reducible refine s_kOrB (fun _ => ?_) (fun h => absurd h (by first | (simp; done) | (simp; omega))) | with_reducible refine s_kAndVB (fun h => absurd h (by first | (simp; done) | (simp; omega))) (fun _ => ?_) | with_reducible refine s_kAndVB (fun _ => ?_) (fun h => absurd h (by first | (simp; done) | (simp; omega))) | with_reducible refine s_kOrVB (fun h => absurd h (by first | (simp; done) | (simp; omega))) (fun _ => ?_) | with_reducible refine s_kOrVB (fun _ => ?_) (fun h => absurd h (by first | (simp; done) | (simp; omega))) | with_reducible refine s_kIfEB (fun h => absurd h (by first | (simp; done) | (simp; omega))) (fun _ => ?_) | with_reducible refine s_kIfEB (fun _ => ?_) (fun h => absurd h (by first | (simp; done) | (simp; omega))) | with_reducible refine s_kCh3B (fun h => absurd h (by first | (simp; done) | (simp; omega))) (fun _ => ?_) | with_reducible refine s_kCh3B (fun _ => ?_) (fun h => absurd h (by first | (simp; done) | (simp; omega))))))
theorem put_put {S : Sto} {a : Addr} {o o' : O} : put (put S a o) a o' = put S a o' := by
  funext b
  unfold put
  by_cases h : b = a <;> simp [h]
theorem s_cut {m n : SM} {A : DL.Fin} {env : Slo} {S : Sto} (I : Slo → Sto → Prop) (h2 : ∀ env S, I env S → n A env S) (h1 : ∀ nx : Slo → Sto → Prop, (∀ env S, I env S → nx env S) → m { A with nx := nx } env S) : mSeq m n A env S := h1 (n A) h2
/-- a for loop by places -/
theorem for_ix {g : GM} {m : SM} {G : Sto → Prop} {A : DL.Fin} (I : Nat → Slo → Sto → Prop) : ∀ (xs : List D) (i0 : Nat) {env : Slo} {S : Sto}, I i0 env S →
    (∀ i x env S, xs[i]? = some x → I (i0 + i) env S → ∀ nx : Slo → Sto → Prop, (∀ e s, I (i0 + i + 1) e s → nx e s) → G S ∧ g x env S fun env2 S2 => m { A with nx := nx, ct := nx, bk := A.nx } env2 S2) →
    (∀ env S, I (i0 + xs.length) env S → G S ∧ A.nx env S) → forL g m G A xs env S
  | [], i0, env, S, h0, _, done => done env S h0
  | x :: xs, i0, env, S, h0, step, done => by
    refine step 0 x env S rfl h0 (forL g m G A xs) fun e s h => ?_
    refine for_ix I xs (i0 + 1) h (fun i y e s hy hi nx hnx => step (i + 1) y e s hy (by rw [show i0 + (i + 1) = i0 + 1 + i by omega]; exact hi) nx fun e s h => hnx e s (by rw [show i0 + 1 + i + 1 = i0 + (i + 1) + 1 by omega]; exact h)) fun e s h => ?_
    exact done e s (by rw [List.length_cons, show i0 + (xs.length + 1) = i0 + 1 + xs.length by omega]; exact h)
theorem rng_at {n i : Nat} {x : D} (h : (rngD 0 n)[i]? = some x) : x = .int i ∧ i < n := by
  unfold rngD at h
  rw [List.getElem?_map] at h
  cases e : (List.range n)[i]? with
  | none => rw [e] at h; cases h
  | some j =>
    rw [e] at h
    have hj := List.getElem?_eq_some_iff.mp e
    obtain ⟨h1, h2⟩ := hj
    rw [List.getElem_range] at h2
    subst h2
    cases h
    exact ⟨by simp, by simpa using h1⟩
theorem rng_len {lo : Int} {n : Nat} : (rngD lo n).length = n := by simp [rngD]
/-- a list comprehension by places -/
theorem lc_ix {g : GM} {t : TM} {m : EM} {G : Sto → Prop} {p : Addr} {Q : DQ} {env : Slo} (I : Nat → List D → Sto → Prop) : ∀ (xs : List D) (i0 : Nat) {S : Sto} {ys : List D}, S p = some (.lst ys) → I i0 ys S →
    (∀ i x S ys, xs[i]? = some x → S p = some (.lst ys) → I (i0 + i) ys S → ∀ nx : Sto → Prop, (∀ s zs, s p = some (.lst zs) → I (i0 + i + 1) zs s → nx s) → G S ∧ g x env S fun env2 S2 => t env2 S2 fun b S3 => match b with
      | true => m env2 S3 fun d S4 => match S4 p with
        | some (.lst ys) => ys.length < sizeLine ∧ nx (DL.put S4 p (.lst (ys ++ [d])))
        | _ => False
      | false => nx S3) →
    (∀ S ys, S p = some (.lst ys) → I (i0 + xs.length) ys S → G S ∧ Q (.ref p) S) → lcL g t m G p Q env xs S
  | [], i0, S, ys, hp, h0, _, done => done S ys hp h0
  | x :: xs, i0, S, ys, hp, h0, step, done => by
    refine step 0 x S ys rfl hp h0 (lcL g t m G p Q env xs) fun s zs hz h => ?_
    refine lc_ix I xs (i0 + 1) hz h (fun i y s zs hy hz hi nx hnx => step (i + 1) y s zs hy hz (by rw [show i0 + (i + 1) = i0 + 1 + i by omega]; exact hi) nx fun s zs hz h => hnx s zs hz (by rw [show i0 + 1 + i + 1 = i0 + (i + 1) + 1 by omega]; exact h)) fun s zs hz h => ?_
    exact done s zs hz (by rw [List.length_cons, show i0 + (xs.length + 1) = i0 + 1 + xs.length by omega]; exact h)
theorem szl {n : Nat} (h : n ≤ 1000) : n ≤ sizeLine := Nat.le_trans h (by decide)
theorem szlt {n : Nat} (h : n ≤ 1000) : n < sizeLine := Nat.lt_of_le_of_lt h (by decide)
theorem log_small {n : Int} (h0 : 0 ≤ n) (h : n < 9000) : n.natAbs.log2 < 9000 := by
  have := Nat.log2_le_self n.natAbs
  omega
/-- all but a stays -/
def Fr (a : Addr) (S S' : Sto) : Prop := ∀ b o, b ≠ a → S b = some o → S' b = some o
theorem Fr.refl {a : Addr} {S : Sto} : Fr a S S := fun _ _ _ h => h
theorem Fr.trans {a : Addr} {S S1 S2 : Sto} (h : Fr a S S1) (h' : Fr a S1 S2) : Fr a S S2 := fun b o hb e => h' b o hb (h b o hb e)
theorem Fr.put {a : Addr} {S S' : Sto} {o : O} (h : Fr a S S') : Fr a S (put S' a o) := fun b o' hb e => by rw [put_ne hb]; exact h b o' hb e
theorem Fr.new {a p : Addr} {S S' : Sto} {o : O} (h : Fr a S S') (hp : S' p = none) : Fr a S (DL.put S' p o) := fun b o' hb e => by
  have e' := h b o' hb e
  rw [put_ne (fun z => by subst z; rw [hp] at e'; cases e')]
  exact e'
structure StA (ns : List Int) (a l : Addr) (S : Sto) : Prop where
  ex : ∃ (p : Nat) (big cnt seed : Int), S a = some (.lst [.ref l, .int p, .int big, .int cnt, .int seed]) ∧ p ≤ ns.length ∧ 0 ≤ big
  sl : S l = some (.lst (ns.map D.int))
  ne : l ≠ a
theorem atI_nat {xs : List D} {p : Nat} {d : D} (h : xs[p]? = some d) : L2.atI xs (p : Int) = some d := by
  have hl : p < xs.length := (List.getElem?_eq_some_iff.mp h).1
  unfold L2.atI
  rw [show L2.ixN xs.length (p : Int) = some p by unfold L2.ixN; rw [if_pos (by omega), if_pos (by omega)]; simp]
  exact h
theorem draw_ok {K : PySem.W.Frag} {ns : List Int} {a l : Addr} {S : Sto} {n : Int} {Q : DQ} {E : XQ} (h : StA ns a l S) (hn : 0 < n) (hb : n.natAbs.log2 < 9000)
    (hQ : ∀ r S', 0 ≤ r → r < n → StA ns a l S' → Fr a S S' → Q (.int r) S') : sp__law_draw K [.ref a, .int n] S Q E := by
  refine spB_mk rfl ?_
  obtain ⟨⟨p, big, cnt, seed, e1, hp, hbig⟩, e2, ne⟩ := h
  unfold b__law_draw
  refine s_seq ?_
  walk_at "dln"
  with_reducible refine s_cut (fun env1 S1 => ∃ (c : Option D) (p : Nat) (big cnt seed : Int), env1 = [some (.ref a), some (.int n), c, none, none, none, none] ∧ S1 a = some (.lst [.ref l, .int p, .int big, .int cnt, .int seed]) ∧ Fr a S S1 ∧ p ≤ ns.length ∧ 0 ≤ big) ?_ ?_
  · rintro _ S1 ⟨c, p, big, cnt, seed, rfl, e3, fr, hp, hbig⟩
    have e4 := fr l _ ne e2
    walk_at "dl"
    with_reducible refine s_ifD (fun hpos => ?_) (fun hneg => ?_)
    · walk_at "dl"
      refine hQ _ _ (Int.emod_nonneg _ (by omega)) (Int.emod_lt_of_pos _ hn) ⟨⟨p, big / n, cnt, seed, put_same, hp, Int.ediv_nonneg hbig (by omega)⟩, ?_, ne⟩ fr.put
      rw [put_ne ne]
      exact e4
    · walk_at "dl"
      exact hQ _ _ (Int.emod_nonneg _ (by omega)) (Int.emod_lt_of_pos _ hn) ⟨⟨p, big, cnt, seed, e3, hp, hbig⟩, e4, ne⟩ fr
  · intro nx hnx
    walk_at "dl"
    with_reducible refine s_kAndB (fun hz => ?_) (fun hz => ?_)
    · walk_at "dl"
      with_reducible refine s_ifD (fun hlt => ?_) (fun hge => ?_)
      · have hp2 : p < ns.length := by simpa using hlt
        have hc : L2.atI (ns.map D.int) (p : Int) = some (.int ns[p]) := atI_nat (by simp [hp2])
        walk_at "dl"
        with_reducible refine s_ifD (fun hbg => ?_) (fun hsm => ?_)
        · walk_at "dl"
          refine hnx _ _ ⟨_, p + 1, _, _, _, rfl, put_same, ?_, hp2, ?_⟩
          · exact ((Fr.refl.put).put).put
          · split <;> omega
        · walk_at "dl"
          refine hnx _ _ ⟨_, p + 1, big, _, _, rfl, put_same, ?_, hp2, hbig⟩
          exact ((Fr.refl.put).put).put
      · walk_at "dl"
        exact hnx _ _ ⟨_, p, big, _, _, rfl, put_same, Fr.refl.put, hp, hbig⟩
    · walk_at "dl"
      exact hnx _ _ ⟨_, p, big, _, _, rfl, put_same, Fr.refl.put, hp, hbig⟩
/-- the state -/
theorem state_ok {K : PySem.W.Frag} {ns : List Int} (hn : ns.length ≤ 63) {S : Sto} {Q : DQ} {E : XQ} (hQ : ∀ a l S', StA ns a l S' → Q (.ref a) S') : sp__law_state K [.rol (ns.map D.int)] S Q E := by
  refine spB_mk rfl ?_
  unfold b__law_state
  walk_at "dl"
  refine s_slR fun l0 hl0 => ?_
  walk_at "dl"
  refine s_listL put_same fun l hl => ?_
  walk_at "dl"
  with_reducible refine s_kLs (szl (by simp)) fun a ha => ?_
  have hc : DL.cutD (ns.map D.int) none (some 63) = ns.map D.int := by
    unfold DL.cutD
    have e1 : HT.sIx (ns.map D.int).length 0 none = 0 := rfl
    have e2 : HT.sIx (ns.map D.int).length (ns.map D.int).length (some 63) = (ns.map D.int).length := by
      rw [List.length_map]
      simp [HT.sIx]
      omega
    rw [e1, e2, List.drop_zero, Nat.sub_zero, List.take_length]
  rw [hc] at ha ⊢
  have ne : l ≠ a := fun z => by
    subst z
    rw [put_same] at ha
    cases ha
  exact hQ _ _ _ ⟨⟨0, 0, 0, 1, put_same, Nat.zero_le _, by decide⟩, by rw [put_ne ne]; exact put_same, ne⟩

set_option Elab.async false
set_option linter.all false
set_option maxRecDepth 100000
set_option maxHeartbeats 1000000
/-! P2b: names drawn. -/
open PySem PySem.Spec PyProof.Rows L2 DL
theorem empty_cps : (Str.ofString "").cps.toList = [] := by decide +kernel
theorem len1 {c : Nat} : Str.length ⟨#[c]⟩ = 1 := by unfold Str.length; rfl
/-- 1 to 8 letters -/
structure NmOk (z : Str) : Prop where
  one : 1 ≤ z.cps.size
  eight : z.cps.size ≤ 8
  az : ∀ c ∈ z.cps.toList, 97 ≤ c ∧ c ≤ 122
def Nms (zs : List Str) : Prop := (∀ z ∈ zs, NmOk z) ∧ zs.Nodup
theorem letters_at {i : Int} (h0 : 0 ≤ i) (h1 : i < 26) : L2.atI (Str.cps "abcdefghijklmnopqrstuvwxyz").toList i = some (97 + i.toNat) := by
  have : ∀ k : Fin 26, L2.atI (Str.cps "abcdefghijklmnopqrstuvwxyz").toList (k.val : Int) = some (97 + k.val) := by decide +kernel
  have h := this ⟨i.toNat, by omega⟩
  simp only [Int.toNat_of_nonneg h0] at h
  exact h
/-- a name under way: n letters, the one at place (if there) is x -/
structure Way (n place x : Nat) (z : Str) : Prop where
  len : z.cps.size = n
  az : ∀ c ∈ z.cps.toList, 97 ≤ c ∧ c ≤ 122
  at_ : place < n → z.cps[place]? = some x
theorem Way.add {n place x y : Nat} {z : Str} (h : Way n place x z) (hy : 97 ≤ y ∧ y ≤ 122) (hx : n = place → y = x) : Way (n + 1) place x (z ++ (⟨#[y]⟩ : Str)) where
  len := by
    show (z.cps ++ #[y]).size = n + 1
    rw [Array.size_append, h.len]
    rfl
  az := fun c hc => by
    have hc' : c ∈ (z.cps ++ #[y]).toList := hc
    rw [Array.toList_append] at hc'
    rcases List.mem_append.mp hc' with q | q
    · exact h.az c q
    · have : c = y := by simpa using q
      rw [this]
      exact hy
  at_ := fun hp => by
    show (z.cps ++ #[y])[place]? = some x
    by_cases q : place < n
    · rw [Array.getElem?_append_left (by rw [h.len]; exact q)]
      exact h.at_ q
    · have e : n = place := by omega
      rw [Array.getElem?_append_right (by rw [h.len]; omega), h.len, e, Nat.sub_self]
      simp [hx e]
theorem names_ok {K : PySem.W.Frag} {ns : List Int} {a l : Addr} {S : Sto} {many : Nat} {Q : DQ} {E : XQ} (h : StA ns a l S) (hm : many ≤ 26)
    (hQ : ∀ p S' zs, zs.length = many → Nms zs → S' p = some (.lst (zs.map D.str)) → S p = none → StA ns a l S' → Fr a S S' → Q (.ref p) S') : sp__law_names K [.ref a, .int many] S Q E := by
  refine spB_mk rfl ?_
  unfold b__law_names
  walk_at "dl"
  refine draw_ok h (by decide) (by decide +kernel) fun place S1 p0 p1 h1 f1 => ?_
  walk_at "dl"
  refine draw_ok h1 (by decide) (by decide +kernel) fun first S2 q0 q1 h2 f2 => ?_
  walk_at "dl"
  refine draw_ok h2 (by decide) (by decide +kernel) fun shared S3 _ _ h3 f3 => ?_
  walk_at "dl"
  refine draw_ok h3 (by decide) (by decide +kernel) fun bas S4 b0 b1 h4 f4 => ?_
  walk_at "dl"
  with_reducible refine s_kLs (szl (by simp)) fun p hp => ?_
  have fr4 : Fr a S S4 := ((f1.trans f2).trans f3).trans f4
  walk_at "dl"
  with_reducible refine s_kR1 (by omega) (by omega) ?_
  walk_at "dl"
  have pa : p ≠ a := fun z => by
    obtain ⟨⟨_, _, _, _, e, _⟩, _, _⟩ := h4
    rw [← z, hp] at e
    cases e
  have pl : l ≠ p := fun z => by
    have e := h4.sl
    rw [z, hp] at e
    cases e
  let Gd : List Str → Prop := fun zs => ∀ (j : Nat) z, zs[j]? = some z → NmOk z ∧ z.cps[place.toNat]? = some (97 + ((first + 7 * (j : Int)) % 26).toNat)
  refine for_ix (fun i env S5 => ∃ (k o sz nm at_ : Option D) (zs : List Str), env = [some (.ref a), some (.int many), some (.int place), some (.int first), some (.int shared), some (.int bas), some (.str "abcdefghijklmnopqrstuvwxyz"), some (.ref p), k, o, sz, nm, at_] ∧
      zs.length = i ∧ Gd zs ∧ S5 p = some (.lst (zs.map D.str)) ∧ StA ns a l S5 ∧ Fr a S4 S5) _ 0 ?_ ?_ ?_
  · refine ⟨_, _, _, _, _, [], rfl, rfl, fun j z hz => by simp at hz, put_same, ⟨?_, ?_, h4.ne⟩, Fr.refl.new hp⟩
    · obtain ⟨p', big, cnt, seed, e, r⟩ := h4.ex
      exact ⟨p', big, cnt, seed, by rw [put_ne (Ne.symm pa)]; exact e, r⟩
    · rw [put_ne pl]; exact h4.sl
  · rintro i x _ S5 hx ⟨k, o, sz, nm, at_, zs, rfl, hl, hg, ep, h5, f5⟩ nx hnx
    obtain ⟨rfl, hi⟩ := rng_at hx
    rw [Nat.zero_add] at hl hnx
    have hi26 : i < 26 := by omega
    refine ⟨trivial, ?_⟩
    refine s_gNm ?_
    with_reducible refine s_seq ?_
    walk_at "dln"
    with_reducible refine s_seq ?_
    walk_at "dln"
    with_reducible refine s_cut (fun env S6 => ∃ (ot sz : Int) (nm at_ : Option D), env = [some (.ref a), some (.int many), some (.int place), some (.int first), some (.int shared), some (.int bas), some (.str "abcdefghijklmnopqrstuvwxyz"), some (.ref p), some (.int i), some (.int ot), some (.int sz), nm, at_] ∧
      0 ≤ ot ∧ place + 1 ≤ sz ∧ sz ≤ 8 ∧ S6 p = some (.lst (zs.map D.str)) ∧ StA ns a l S6 ∧ Fr a S4 S6) ?_ ?_
    · rintro _ S6 ⟨ot, sz, nm, at_, rfl, ho, hs1, hs2, ep6, h6, f6⟩
      with_reducible refine s_seq ?_
      walk_at "dln"
      with_reducible refine s_seq ?_
      with_reducible refine s_for ?_
      walk_at "dln"
      with_reducible refine s_kR1 (by omega) (by omega) ?_
      with_reducible refine s_kFor ?_
      refine for_ix (fun t env S7 => ∃ (ot : Int) (z : Str) (at_ : Option D), env = [some (.ref a), some (.int many), some (.int place), some (.int first), some (.int shared), some (.int bas), some (.str "abcdefghijklmnopqrstuvwxyz"), some (.ref p), some (.int i), some (.int ot), some (.int sz), some (.str z), at_] ∧
        0 ≤ ot ∧ Way t place.toNat (97 + ((first + 7 * (i : Int)) % 26).toNat) z ∧ S7 = S6) _ 0 ?_ ?_ ?_
      · exact ⟨ot, _, _, rfl, ho, ⟨rfl, fun c hc => (by rw [empty_cps] at hc; cases hc), fun hp => by omega⟩, rfl⟩
      · rintro t x _ S7 hx ⟨ot, z, at_, rfl, ho, hw, rfl⟩ nx2 hnx2
        obtain ⟨rfl, ht⟩ := rng_at hx
        rw [Nat.zero_add] at hw hnx2
        refine ⟨trivial, ?_⟩
        refine s_gNm ?_
        have l1 := letters_at (i := (first + 7 * (i : Int)) % 26) (Int.emod_nonneg _ (by decide)) (Int.emod_lt_of_pos _ (by decide))
        have l2 := letters_at (i := ot % 26) (Int.emod_nonneg _ (by decide)) (Int.emod_lt_of_pos _ (by decide))
        have zl : z.length = t := hw.len
        walk_at "dl"
        with_reducible refine s_ifD (fun he => ?_) (fun hne => ?_)
        · walk_at "dl"
          with_reducible refine s_addS (by rw [zl, len1]; exact szl (by omega)) ?_
          walk_at "dl"
          exact hnx2 _ _ ⟨ot, _, _, rfl, ho, hw.add (by omega) (fun _ => rfl), rfl⟩
        · walk_at "dl"
          with_reducible refine s_addS (by rw [zl, len1]; exact szl (by omega)) ?_
          walk_at "dl"
          exact hnx2 _ _ ⟨ot / 26, _, _, rfl, Int.ediv_nonneg ho (by decide), hw.add (by omega) (fun e => absurd (by omega) hne), rfl⟩
      · rintro _ S7 ⟨ot, z, at_, rfl, ho, hw, rfl⟩
        refine ⟨trivial, ?_⟩
        rw [Nat.zero_add, rng_len] at hw
        have zl : zs.length ≤ 26 := by omega
        walk_at "dl"
        with_reducible refine s_app ep6 (by rw [List.length_map]; exact szlt (by omega)) ?_
        walk_at "dl"
        have nb : place.toNat < sz.toNat := by omega
        refine hnx _ _ ⟨_, _, _, _, _, zs ++ [z], rfl, by simp [hl], ?_, by rw [put_same]; simp, ⟨?_, ?_, h6.ne⟩, ?_⟩
        · intro j y hy
          by_cases hj : j < zs.length
          · rw [List.getElem?_append_left hj] at hy
            exact hg j y hy
          · rw [List.getElem?_append_right (by omega)] at hy
            have ej : j = i := by
              have := (List.getElem?_eq_some_iff.mp hy).1
              simp at this
              omega
            subst ej
            rw [hl, Nat.sub_self] at hy
            cases hy
            exact ⟨⟨by rw [hw.len]; omega, by rw [hw.len]; omega, hw.az⟩, hw.at_ nb⟩
        · obtain ⟨p', big, cnt, seed, e, r⟩ := h6.ex
          exact ⟨p', big, cnt, seed, by rw [put_ne (Ne.symm pa)]; exact e, r⟩
        · rw [put_ne pl]; exact h6.sl
        · intro b o hb e
          have e' := f6 b o hb e
          rw [put_ne (fun z => by subst z; rw [hp] at e; cases e)]
          exact e'
    · intro nx3 hnx3
      walk_at "dl"
      with_reducible refine s_ifD (fun he => ?_) (fun hne => ?_)
      · walk_at "dl"
        refine draw_ok h5 (by decide) (by decide +kernel) fun ot S6 o0 o1 h6 g6 => ?_
        walk_at "dl"
        refine draw_ok h6 (by omega) (log_small (by omega) (by omega)) fun more S7 m0 m1 h7 g7 => ?_
        walk_at "dl"
        exact hnx3 _ _ ⟨ot, _, _, _, rfl, o0, by omega, by omega, g7 p _ pa (g6 p _ pa ep), h7, (f5.trans g6).trans g7⟩
      · walk_at "dl"
        exact hnx3 _ _ ⟨bas, _, _, _, rfl, b0, by omega, by omega, ep, h5, f5⟩
  · rintro _ S5 ⟨k, o, sz, nm, at_, zs, rfl, hl, hg, ep, h5, f5⟩
    rw [Nat.zero_add, rng_len] at hl
    refine ⟨trivial, ?_⟩
    walk_at "dl"
    have sp : S p = none := by
      cases e : S p with
      | none => rfl
      | some o' => rw [fr4 p o' pa e] at hp; cases hp
    refine hQ p S5 zs (by simpa using hl) ⟨fun z hz => ?_, ?_⟩ ep sp h5 (fr4.trans f5)
    · obtain ⟨j, hj, e⟩ := List.getElem_of_mem hz
      exact (hg j z (by rw [List.getElem?_eq_getElem hj, e])).1
    · refine List.pairwise_iff_getElem.mpr fun i j hi hj hij e => ?_
      have e1 := (hg i _ (List.getElem?_eq_getElem hi)).2
      have e2 := (hg j _ (List.getElem?_eq_getElem hj)).2
      rw [e, e2] at e1
      have e3 := Option.some.inj e1
      have : zs.length ≤ 26 := by
        rw [hl]
        simpa using hm
      omega

set_option Elab.async false
set_option linter.all false
set_option maxRecDepth 100000
set_option maxHeartbeats 1000000
/-! P2c: rows as data, their number. -/
open PySem PySem.Spec PyProof.Rows L2 DL
inductive Row where
  | read (c s : Str) | peek (c s : Str) | put (s w : Str) | give (s : Str) | say (s : Str) | write (c s : Str)
  | ite (s w : Str) (y n : List Row)
mutual
def Row.d : Row → D
  | .read c s => .tup [.str "read", .str c, .str s]
  | .peek c s => .tup [.str "peek", .str c, .str s]
  | .put s w => .tup [.str "put", .str s, .str w]
  | .give s => .tup [.str "give", .str s]
  | .say s => .tup [.str "say", .str s]
  | .write c s => .tup [.str "write", .str c, .str s]
  | .ite s w y n => .tup [.str "if", .str s, .str w, .tup (rowsD y), .tup (rowsD n)]
def rowsD : List Row → List D
  | [] => []
  | r :: rs => r.d :: rowsD rs
end
mutual
def Row.ex : Row → Nat
  | .ite _ _ y n => rowsCnt y + rowsCnt n
  | .read _ _ => 0
  | .peek _ _ => 0
  | .put _ _ => 0
  | .give _ => 0
  | .say _ => 0
  | .write _ _ => 0
def rowsCnt : List Row → Nat
  | [] => 0
  | r :: rs => 1 + r.ex + rowsCnt rs
end
mutual
def Row.dep : Row → Nat
  | .ite _ _ y n => 1 + max (rowsDep y) (rowsDep n)
  | .read _ _ => 0
  | .peek _ _ => 0
  | .put _ _ => 0
  | .give _ => 0
  | .say _ => 0
  | .write _ _ => 0
def rowsDep : List Row → Nat
  | [] => 0
  | r :: rs => max r.dep (rowsDep rs)
end
theorem rowsD_map : ∀ rs : List Row, rowsD rs = rs.map Row.d
  | [] => by simp [rowsD]
  | r :: rs => by simp [rowsD, rowsD_map rs]
theorem rowsD_len {rs : List Row} : (rowsD rs).length = rs.length := by rw [rowsD_map, List.length_map]
theorem rowsD_at {rs : List Row} {i : Nat} {x : D} (h : (rowsD rs)[i]? = some x) : ∃ r, rs[i]? = some r ∧ x = r.d := by
  rw [rowsD_map, List.getElem?_map] at h
  cases e : rs[i]? with
  | none => rw [e] at h; cases h
  | some r => rw [e] at h; exact ⟨r, rfl, (Option.some.inj h).symm⟩
theorem dep_mem : ∀ {rs : List Row} {r : Row}, r ∈ rs → r.dep ≤ rowsDep rs
  | x :: rs, r, h => by
    rw [rowsDep]
    rcases List.mem_cons.mp h with e | h
    · subst e; omega
    · have := dep_mem h; omega
/-- the rows' own numbers, summed -/
def exSum (rs : List Row) : Nat := (rs.map Row.ex).sum
theorem cnt_eq : ∀ rs : List Row, rowsCnt rs = rs.length + exSum rs
  | [] => rfl
  | r :: rs => by
    rw [rowsCnt, cnt_eq rs]
    simp [exSum]
    omega
theorem exSum_take {rs : List Row} {i : Nat} {r : Row} (h : rs[i]? = some r) : exSum (rs.take (i + 1)) = exSum (rs.take i) + r.ex := by
  obtain ⟨hi, e⟩ := List.getElem?_eq_some_iff.mp h
  rw [List.take_succ, h]
  simp [exSum]
theorem many_ok {K : PySem.W.Frag} : ∀ (n : Nat) (rs : List Row) {S : Sto} {Q : DQ} {E : XQ}, rowsDep rs < n → Q (.int (rowsCnt rs)) S → sp__law_many K n [.tup (rowsD rs)] S Q E
  | 0, rs, S, Q, E, h, _ => absurd h (Nat.not_lt_zero _)
  | n + 1, rs, S, Q, E, h, hQ => by
    refine spB_mk rfl ?_
    unfold b__law_many
    walk_at "dl"
    refine for_ix (fun i env S' => ∃ x : Option D, env = [some (.tup (rowsD rs)), some (.int ((rs.length + exSum (rs.take i) : Nat) : Int)), x] ∧ S' = S) _ 0 ?_ ?_ ?_
    · have e0 : ((rowsD rs).length : Int) = ((rs.length + exSum (rs.take 0) : Nat) : Int) := by
        rw [rowsD_len]
        simp [exSum]
      rw [e0]
      exact ⟨_, rfl, rfl⟩
    · rintro i x _ _ hx ⟨y, rfl, rfl⟩ nx hnx
      rw [Nat.zero_add] at hnx ⊢
      obtain ⟨r, hr, rfl⟩ := rowsD_at hx
      have hd := dep_mem (List.mem_of_getElem? hr)
      have et := exSum_take hr
      refine ⟨trivial, ?_⟩
      refine s_gNm ?_
      cases r with
      | ite s w y n' =>
        rw [Row.d]
        rw [Row.dep] at hd
        rw [Row.ex] at et
        walk_at "dl"
        refine many_ok n y (by omega) ?_
        walk_at "dl"
        refine many_ok n n' (by omega) ?_
        walk_at "dl"
        have e1 : ((rs.length + exSum (rs.take i) : Nat) : Int) + ((rowsCnt y : Int) + (rowsCnt n' : Int)) = ((rs.length + exSum (rs.take (i + 1)) : Nat) : Int) := by
          rw [et]
          omega
        rw [e1]
        exact hnx _ _ ⟨_, rfl, rfl⟩
      | _ =>
        rw [Row.d]
        rw [Row.ex] at et
        walk_at "dl"
        replace et : exSum (rs.take (i + 1)) = exSum (rs.take i) := et
        rw [← et]
        exact hnx _ _ ⟨_, rfl, rfl⟩
    · rintro _ _ ⟨y, rfl, rfl⟩
      refine ⟨trivial, ?_⟩
      walk_at "dl"
      rw [rowsD_len, Nat.zero_add, List.take_length, ← cnt_eq]
      exact hQ

set_option Elab.async false
set_option linter.all false
set_option maxRecDepth 100000
set_option maxHeartbeats 1000000
/-! P2d: rows drawn. -/
open PySem PySem.Spec PyProof.Rows L2 DL
/-- what rows are drawn from -/
structure Shp where
  der : Bool
  pk : Bool
  wr : Bool
  words : List Str
  sources : List Str
  cells : List Str
  slots : List Str
mutual
def Row.ok (h : Shp) : Row → Prop
  | .read c s => c ∈ h.cells ∧ s ∈ h.slots
  | .peek c s => h.der = false ∧ c ∈ h.cells ∧ s ∈ h.slots
  | .put s w => s ∈ h.slots ∧ w ∈ h.words
  | .give s => h.der = true ∧ s ∈ h.slots
  | .say s => h.der = false ∧ s ∈ h.slots
  | .write c s => h.der = false ∧ c ∈ h.sources ∧ s ∈ h.slots
  | .ite s w y n => s ∈ h.slots ∧ w ∈ h.words ∧ rowsOk h y ∧ rowsOk h n
def rowsOk (h : Shp) : List Row → Prop
  | [] => True
  | r :: rs => r.ok h ∧ rowsOk h rs
end
theorem rowsOk_all {h : Shp} : ∀ {rs : List Row}, rowsOk h rs ↔ ∀ r ∈ rs, r.ok h
  | [] => by simp [rowsOk]
  | r :: rs => by rw [rowsOk, rowsOk_all]; simp
def kindS (b : Bool) : Str := match b with
  | true => "derived"
  | false => "effects"
theorem kind_der {b : Bool} (h : kindS b = "derived") : b = true := by
  cases b
  · exact absurd h (by decide +kernel)
  · rfl
theorem kind_eff {b : Bool} (h : ¬ kindS b = "derived") : b = false := by
  cases b
  · rfl
  · exact absurd rfl h
/-- the shape's dict -/
structure ShD (h : Shp) (sl ce : Addr) (kvs : List (Key × D)) : Prop where
  kind : valD kvs (.inr "kind") = some (.str (kindS h.der))
  cells : valD kvs (.inr "cells") = some (.ref ce)
  sources : valD kvs (.inr "sources") = some (.tp true (h.sources.map D.str))
  slots : valD kvs (.inr "slots") = some (.ref sl)
  words : valD kvs (.inr "words") = some (.tup (h.words.map D.str))
  peeks : valD kvs (.inr "peeks") = some (.bl h.pk)
  writes : valD kvs (.inr "writes") = some (.bl h.wr)
/-- .. and what it holds, in the store -/
structure ShS (h : Shp) (a sh sl ce : Addr) (S : Sto) : Prop where
  ex : ∃ kvs, S sh = some (.dic kvs) ∧ ShD h sl ce kvs
  sl_ : S sl = some (.lst (h.slots.map D.str))
  ce_ : S ce = some (.lst (h.cells.map D.str))
  nsh : sh ≠ a
  nsl : sl ≠ a
  nce : ce ≠ a
theorem ShS.fr {h : Shp} {a sh sl ce : Addr} {S S' : Sto} (x : ShS h a sh sl ce S) (f : Fr a S S') : ShS h a sh sl ce S' := by
  obtain ⟨⟨kvs, e, d⟩, e1, e2, n1, n2, n3⟩ := x
  exact ⟨⟨kvs, f _ _ n1 e, d⟩, f _ _ n2 e1, f _ _ n3 e2, n1, n2, n3⟩
/-- sizes and the bond between kind and flags -/
structure ShW (h : Shp) : Prop where
  w0 : 0 < h.words.length
  w1 : h.words.length ≤ 100
  s0 : 0 < h.sources.length
  s1 : h.sources.length ≤ 100
  c0 : 0 < h.cells.length
  c1 : h.cells.length ≤ 100
  l0 : 0 < h.slots.length
  l1 : h.slots.length ≤ 100
  flags : h.der = true → h.pk = false ∧ h.wr = false
theorem at_rng {zs : List Str} {r : Int} (h0 : 0 ≤ r) (h1 : r < (zs.map D.str).length) : ∃ z ∈ zs, L2.atI (zs.map D.str) r = some (.str z) := by
  obtain ⟨n, rfl⟩ := Int.eq_ofNat_of_zero_le h0
  have hn : n < zs.length := by simpa using h1
  exact ⟨zs[n], List.getElem_mem hn, atI_nat (by simp [hn])⟩
theorem draw_at {K : PySem.W.Frag} {ns : List Int} {a l : Addr} {S : Sto} {zs : List Str} {Q : DQ} {E : XQ} (h : StA ns a l S) (h0 : 0 < zs.length) (h1 : zs.length ≤ 100)
    (hQ : ∀ r S' z, z ∈ zs → L2.atI (zs.map D.str) r = some (.str z) → StA ns a l S' → Fr a S S' → Q (.int r) S') : sp__law_draw K [.ref a, .int ((zs.map D.str).length : Nat)] S Q E := by
  refine draw_ok h (by simpa using h0) (log_small (by omega) (by simp; omega)) fun r S' r0 r1 h' f' => ?_
  obtain ⟨z, hz, ez⟩ := at_rng r0 r1
  exact hQ r S' z hz ez h' f'
theorem row_ok {K : PySem.W.Frag} {ns : List Int} {a l sh sl ce : Addr} {S : Sto} {h : Shp} {Q : DQ} {E : XQ} (hS : StA ns a l S) (hh : ShS h a sh sl ce S) (hw : ShW h)
    (hQ : ∀ (r : Row) S', r.ok h → r.dep = 0 → r.ex = 0 → StA ns a l S' → Fr a S S' → Q r.d S') : sp__law_row K [.ref a, .ref sh] S Q E := by
  refine spB_mk rfl ?_
  unfold b__law_row
  walk_at "dl"
  refine draw_ok hS (by decide) (by decide +kernel) fun k S1 k0 k1 h1 f1 => ?_
  obtain ⟨⟨kvs, e1, d⟩, e2, e3, _, _, _⟩ := hh.fr f1
  have dk := d.kind
  have dc := d.cells
  have ds := d.sources
  have dl := d.slots
  have dw := d.words
  have dp := d.peeks
  have dr := d.writes
  walk_at "dl"
  refine draw_at h1 hw.l0 hw.l1 fun r2 S2 s hs es h2 f2 => ?_
  obtain ⟨⟨kvs', e1', d'⟩, e2', e3', n1, n2, n3⟩ := hh.fr (f1.trans f2)
  have ek : kvs' = kvs := by
    have z := f2 _ _ n1 e1
    rw [e1'] at z
    cases z
    rfl
  subst ek
  walk_at "dl"
  have rest : ∀ (env : Slo), env = [some (.ref a), some (.ref sh), some (.int k), some (.str s), none] → ¬ k = 0 → ¬ k = 1 → (mSeq (mIf (mAnd (mB (mOp vEq (mVar 2) (mC (.int 2)))) (mTru (mOp vIx (mVar 1) (mC (.str "writes")))))
      (mRet (mTup (mCons (mC (.str "write")) (mCons (mOp vIx (mOp vIx (mVar 1) (mC (.str "sources"))) (mCall (sp__law_draw K) (fun c fs _ S' => E c fs S') (mCons (mVar 0) (mCons (mCB vLen (mCons (mOp vIx (mVar 1) (mC (.str "sources"))) mNil)) mNil)))) (mCons (mVar 3) mNil))))) mNx)
      (mSeq (mAsg (mOp vIx (mOp vIx (mVar 1) (mC (.str "cells"))) (mCall (sp__law_draw K) (fun c fs _ S' => E c fs S') (mCons (mVar 0) (mCons (mCB vLen (mCons (mOp vIx (mVar 1) (mC (.str "cells"))) mNil)) mNil)))) (gNm 4))
        (mSeq (mIf (mAnd (mB (mOp vEq (mVar 2) (mC (.int 3)))) (mTru (mOp vIx (mVar 1) (mC (.str "peeks"))))) (mRet (mTup (mCons (mC (.str "peek")) (mCons (mVar 4) (mCons (mVar 3) mNil))))) mNx)
          (mRet (mTup (mCons (mC (.str "read")) (mCons (mVar 4) (mCons (mVar 3) mNil)))))))) { nx := fun _ S' => Q .non S', rt := Q } env S2 := by
    rintro _ rfl hk0 hk1
    have last : ∀ (env : Slo), env = [some (.ref a), some (.ref sh), some (.int k), some (.str s), none] → (mSeq (mAsg (mOp vIx (mOp vIx (mVar 1) (mC (.str "cells"))) (mCall (sp__law_draw K) (fun c fs _ S' => E c fs S') (mCons (mVar 0) (mCons (mCB vLen (mCons (mOp vIx (mVar 1) (mC (.str "cells"))) mNil)) mNil)))) (gNm 4))
        (mSeq (mIf (mAnd (mB (mOp vEq (mVar 2) (mC (.int 3)))) (mTru (mOp vIx (mVar 1) (mC (.str "peeks"))))) (mRet (mTup (mCons (mC (.str "peek")) (mCons (mVar 4) (mCons (mVar 3) mNil))))) mNx)
          (mRet (mTup (mCons (mC (.str "read")) (mCons (mVar 4) (mCons (mVar 3) mNil))))))) { nx := fun _ S' => Q .non S', rt := Q } env S2 := by
      rintro _ rfl
      walk_at "dl"
      refine draw_at h2 hw.c0 hw.c1 fun r3 S3 c hc ec h3 f3 => ?_
      have e1s := f3 _ _ n1 e1'
      have e3s := f3 _ _ n3 e3'
      have f03 : Fr a S S3 := (f1.trans f2).trans f3
      walk_at "dl"
      with_reducible refine s_kAndB (fun hk3 => ?_) (fun hk3 => ?_)
      · walk_at "dl"
        with_reducible refine s_ifB (fun hp => ?_) (fun hp => ?_)
        · walk_at "dl"
          with_reducible refine s_kTp (szl (by simp)) ?_
          refine hQ (.peek c s) S3 ⟨?_, hc, hs⟩ rfl rfl h3 f03
          cases hd : h.der
          · rfl
          · rw [(hw.flags hd).1] at hp
            cases hp
        · walk_at "dl"
          with_reducible refine s_kTp (szl (by simp)) ?_
          exact hQ (.read c s) S3 ⟨hc, hs⟩ rfl rfl h3 f03
      · walk_at "dl"
        with_reducible refine s_kTp (szl (by simp)) ?_
        exact hQ (.read c s) S3 ⟨hc, hs⟩ rfl rfl h3 f03
    with_reducible refine s_seq ?_
    walk_at "dln"
    with_reducible refine s_kAndB (fun hk2 => ?_) (fun hk2 => ?_)
    · walk_at "dln"
      with_reducible refine s_ifB (fun hp => ?_) (fun hp => ?_)
      · walk_at "dln"
        refine draw_at h2 hw.s0 hw.s1 fun r3 S3 c hc ec h3 f3 => ?_
        walk_at "dln"
        with_reducible refine s_kTp (szl (by simp)) ?_
        refine hQ (.write c s) S3 ⟨?_, hc, hs⟩ rfl rfl h3 ((f1.trans f2).trans f3)
        cases hd : h.der
        · rfl
        · rw [(hw.flags hd).2] at hp
          cases hp
      · walk_at "dln"
        exact last _ rfl
    · walk_at "dln"
      exact last _ rfl
  with_reducible refine s_ifD (fun hk => ?_) (fun hk => ?_)
  · walk_at "dl"
    refine draw_at h2 hw.w0 hw.w1 fun r3 S3 w hww ew h3 f3 => ?_
    walk_at "dl"
    with_reducible refine s_kTp (szl (by simp)) ?_
    exact hQ (.put s w) S3 ⟨hs, hww⟩ rfl rfl h3 ((f1.trans f2).trans f3)
  · with_reducible refine s_nx ?_
    with_reducible refine s_seq ?_
    walk_at "dln"
    with_reducible refine s_kAndB (fun hk1 => ?_) (fun hk1 => ?_)
    · walk_at "dln"
      with_reducible refine s_ifD (fun hd => ?_) (fun hd => ?_)
      · walk_at "dln"
        with_reducible refine s_kTp (szl (by simp)) ?_
        exact hQ (.give s) S2 ⟨kind_der hd, hs⟩ rfl rfl h2 (f1.trans f2)
      · walk_at "dln"
        with_reducible refine s_seq ?_
        walk_at "dln"
        with_reducible refine s_ifD (fun hk' => ?_) (fun hk' => ?_)
        · walk_at "dln"
          with_reducible refine s_kTp (szl (by simp)) ?_
          exact hQ (.say s) S2 ⟨kind_eff hd, hs⟩ rfl rfl h2 (f1.trans f2)
        · exact absurd (of_decide_eq_true hk1) hk'
    · walk_at "dln"
      with_reducible refine s_seq ?_
      walk_at "dln"
      with_reducible refine s_ifD (fun hk' => ?_) (fun hk' => ?_)
      · rw [decide_eq_true hk'] at hk1
        cases hk1
      · walk_at "dln"
        exact rest _ rfl hk hk'

set_option Elab.async false
set_option linter.all false
set_option maxRecDepth 100000
set_option maxHeartbeats 1000000
/-! P2e: rows drawn, nested. -/
open PySem PySem.Spec PyProof.Rows L2 DL
theorem rowsD_app (rs : List Row) (r : Row) : rowsD rs ++ [r.d] = rowsD (rs ++ [r]) := by
  rw [rowsD_map, rowsD_map, List.map_append]
  rfl
theorem cnt_app (rs : List Row) (r : Row) : rowsCnt (rs ++ [r]) = rowsCnt rs + 1 + r.ex := by
  rw [cnt_eq, cnt_eq]
  simp [exSum]
  omega
theorem dep_app : ∀ (rs : List Row) (r : Row), rowsDep (rs ++ [r]) = max (rowsDep rs) r.dep
  | [], r => by simp [rowsDep]
  | x :: rs, r => by
    rw [List.cons_append, rowsDep, rowsDep, dep_app rs r]
    omega
theorem ok_app {h : Shp} {rs : List Row} {r : Row} (h1 : rowsOk h rs) (h2 : r.ok h) : rowsOk h (rs ++ [r]) := by
  rw [rowsOk_all] at h1 ⊢
  intro x hx
  rcases List.mem_append.mp hx with q | q
  · exact h1 x q
  · rw [List.mem_singleton.mp q]; exact h2
theorem Fr.wr {a p : Addr} {S S' : Sto} {o : O} (h : Fr a S S') (hp : S p = none) : Fr a S (DL.put S' p o) := fun b o' hb e => by
  rw [put_ne (fun z => by subst z; rw [hp] at e; cases e)]
  exact h b o' hb e
theorem StA.wr {ns : List Int} {a l p : Addr} {S : Sto} {o : O} (h : StA ns a l S) (pa : p ≠ a) (pl : l ≠ p) : StA ns a l (DL.put S p o) := by
  obtain ⟨⟨p', big, cnt, seed, e, r⟩, e2, ne⟩ := h
  exact ⟨⟨p', big, cnt, seed, by rw [put_ne (Ne.symm pa)]; exact e, r⟩, by rw [put_ne pl]; exact e2, ne⟩
theorem StA.fresh {ns : List Int} {a l p : Addr} {S : Sto} (h : StA ns a l S) (hp : S p = none) : p ≠ a ∧ l ≠ p := by
  obtain ⟨⟨p', big, cnt, seed, e, r⟩, e2, ne⟩ := h
  refine ⟨fun z => ?_, fun z => ?_⟩
  · rw [← z, hp] at e; cases e
  · rw [z, hp] at e2; cases e2
theorem rows_ok {K : PySem.W.Frag} {ns : List Int} {a l sh sl ce : Addr} {h : Shp} (hw : ShW h) : ∀ (n : Nat) {S : Sto} {d room : Int} {Q : DQ} {E : XQ}, StA ns a l S → ShS h a sh sl ce S → 1 ≤ d → d ≤ 4 → 4 - d < n → 0 ≤ room → room ≤ 900 →
    (∀ (rs : List Row) S', rowsOk h rs → (rowsCnt rs : Int) ≤ room → (rowsDep rs : Int) ≤ 4 - d → StA ns a l S' → Fr a S S' → Q (.tup (rowsD rs)) S') → sp__law_rows K n [.ref a, .ref sh, .int d, .int room] S Q E
  | 0, S, d, room, Q, E, hS, hh, d1, d4, hn, r0, r1, hQ => by omega
  | n + 1, S, d, room, Q, E, hS, hh, d1, d4, hn, r0, r1, hQ => by
    refine spB_mk rfl ?_
    unfold b__law_rows
    walk_at "dl"
    with_reducible refine s_kLs (szl (by simp)) fun p hp => ?_
    obtain ⟨pa, pl⟩ := hS.fresh hp
    have f0 : Fr a S (put S p (.lst [])) := Fr.refl.new hp
    have hS0 : StA ns a l (put S p (.lst [])) := hS.wr pa pl
    walk_at "dl"
    refine draw_ok hS0 (by decide) (by decide +kernel) fun t S1 t0 t1 h1 f1 => ?_
    have ep1 : S1 p = some (.lst []) := f1 _ _ pa put_same
    walk_at "dl"
    with_reducible refine s_kR1 (by omega) (by omega) ?_
    walk_at "dl"
    refine for_ix (fun i env S' => ∃ (rs : List Row) (left : Int) (x1 x2 x3 x4 x5 x6 : Option D), env = [some (.ref a), some (.ref sh), some (.int d), some (.int room), some (.ref p), some (.int left), x1, x2, x3, x4, x5, x6] ∧ rowsOk h rs ∧ (rowsCnt rs : Int) + left = room ∧ 0 ≤ left ∧
      (rowsDep rs : Int) ≤ 4 - d ∧ S' p = some (.lst (rowsD rs)) ∧ StA ns a l S' ∧ Fr a S S') _ 0 ?_ ?_ ?_
    · refine ⟨[], room, _, _, _, _, _, _, rfl, trivial, by simp [rowsCnt], r0, by simp [rowsDep]; omega, by rw [rowsD]; exact ep1, h1, f0.trans f1⟩
    · rintro i x _ S2 hx ⟨rs, left, x1, x2, x3, x4, x5, x6, rfl, hok, hcnt, hl0, hdep, ep, h2, f2⟩ nx hnx
      have hlen : (rowsD rs).length < sizeLine := by
        rw [rowsD_len]
        have := cnt_eq rs
        exact szlt (by omega)
      have hlen' : ∀ r : Row, (rowsD (rs ++ [r])).length < sizeLine := fun r => by
        rw [rowsD_len]
        have := cnt_eq rs
        exact szlt (by simp; omega)
      refine ⟨trivial, ?_⟩
      refine s_gNm ?_
      have other : ∀ (x : Option D) (S3 : Sto), StA ns a l S3 → Fr a S2 S3 → (mIf (mB (mOp vGe (mVar 5) (mC (.int 1))))
          (mSeq (mDrop (mMet okL rApp (mVar 4) (mCons (mCall (sp__law_row K) (fun c fs _ S' => E c fs S') (mCons (mVar 0) (mCons (mVar 1) mNil))) mNil))) (mAsg (mOp vSub (mVar 5) (mC (.int 1))) (gNm 5)))
          mNx) { nx := nx, rt := Q, bk := fun e s => (mRet (mCB vTuple (mCons (mVar 4) mNil))) { nx := fun _ S' => Q .non S', rt := Q } e s, ct := nx } [some (.ref a), some (.ref sh), some (.int d), some (.int room), some (.ref p), some (.int left), x, x2, x3, x4, x5, x6] S3 := by
        intro x S3 h3 f3
        have ep3 := f3 _ _ pa ep
        walk_at "dl"
        with_reducible refine s_ifD (fun hl => ?_) (fun hl => ?_)
        · walk_at "dl"
          refine row_ok h3 (hh.fr (f2.trans f3)) hw fun r S4 rok rdep rex h4 f4 => ?_
          have ep4 := f4 _ _ pa ep3
          walk_at "dl"
          with_reducible refine s_app ep4 hlen ?_
          walk_at "dl"
          rw [rowsD_app]
          refine hnx _ _ ⟨rs ++ [r], left - 1, _, _, _, _, _, _, rfl, ok_app hok rok, by rw [cnt_app, rex]; omega, by omega, by rw [dep_app, rdep]; omega, put_same, h4.wr pa pl, ((f2.trans f3).trans f4).wr hp⟩
        · walk_at "dl"
          exact hnx _ _ ⟨rs, left, _, _, _, _, _, _, rfl, hok, hcnt, hl0, hdep, ep3, h3, f2.trans f3⟩
      walk_at "dln"
      with_reducible refine s_kAndB (fun hl2 => ?_) (fun hl2 => ?_)
      · have hl2 := of_decide_eq_true hl2
        walk_at "dln"
        with_reducible refine s_kAndB (fun hd4 => ?_) (fun hd4 => ?_)
        · have hd4 := of_decide_eq_true hd4
          walk_at "dln"
          refine draw_ok h2 (by decide) (by decide +kernel) fun r S3 _ _ h3 f3 => ?_
          walk_at "dln"
          with_reducible refine s_ifD (fun hr => ?_) (fun hr => ?_)
          · obtain ⟨⟨kvs, e1, dd⟩, e2, e3, n1, n2, n3⟩ := hh.fr (f2.trans f3)
            have dc := dd.cells
            have dl := dd.slots
            have dw := dd.words
            walk_at "dl"
            refine draw_at h3 hw.l0 hw.l1 fun r4 S4 s hs es h4 f4 => ?_
            have e14 := f4 _ _ n1 e1
            have e24 := f4 _ _ n2 e2
            have e34 := f4 _ _ n3 e3
            walk_at "dl"
            refine draw_at h4 hw.c0 hw.c1 fun r5 S5 c hc ec h5 f5 => ?_
            have e15 := f5 _ _ n1 e14
            have e35 := f5 _ _ n3 e34
            walk_at "dl"
            refine draw_at h5 hw.w0 hw.w1 fun r6 S6 w hww ew h6 f6 => ?_
            have ep6 := f6 _ _ pa (f5 _ _ pa (f4 _ _ pa (f3 _ _ pa ep)))
            have f06 : Fr a S S6 := (((f2.trans f3).trans f4).trans f5).trans f6
            walk_at "dl"
            with_reducible refine s_kTp (szl (by simp)) ?_
            walk_at "dl"
            with_reducible refine s_app ep6 hlen ?_
            walk_at "dl"
            have h7 : StA ns a l (put S6 p (.lst (rowsD rs ++ [.tup [.str "read", .str c, .str s]]))) := h6.wr pa pl
            have f07 : Fr a S (put S6 p (.lst (rowsD rs ++ [.tup [.str "read", .str c, .str s]]))) := f06.wr hp
            refine rows_ok hw n h7 (hh.fr f07) (by omega) (by omega) (by omega) (by omega) (by omega) fun ys S8 yok ycnt ydep h8 f8 => ?_
            walk_at "dl"
            refine rows_ok hw n h8 (hh.fr (f07.trans f8)) (by omega) (by omega) (by omega) (by omega) (by omega) fun zs S9 zok zcnt zdep h9 f9 => ?_
            have ep9 := f9 _ _ pa (f8 _ _ pa put_same)
            have f09 : Fr a S S9 := (f07.trans f8).trans f9
            walk_at "dl"
            with_reducible refine s_kTp (szl (by simp)) ?_
            walk_at "dl"
            have e9 : rowsD rs ++ [.tup [.str "read", .str c, .str s]] = rowsD (rs ++ [.read c s]) := by rw [← rowsD_app, Row.d]
            rw [e9] at ep9
            with_reducible refine s_app ep9 (hlen' _) ?_
            walk_at "dl"
            refine many_ok 6 ys (by omega) ?_
            walk_at "dl"
            refine many_ok 6 zs (by omega) ?_
            walk_at "dl"
            have ea : rowsD (rs ++ [.read c s]) ++ [.tup [.str "if", .str s, .str w, .tup (rowsD ys), .tup (rowsD zs)]] = rowsD (rs ++ [.read c s] ++ [.ite s w ys zs]) := by
              have z := rowsD_app (rs ++ [Row.read c s]) (Row.ite s w ys zs)
              rw [Row.d] at z
              exact z
            rw [ea]
            refine hnx _ _ ⟨rs ++ [.read c s] ++ [.ite s w ys zs], _, _, _, _, _, _, _, rfl, ok_app (r := .ite s w ys zs) (ok_app (r := .read c s) hok (by rw [Row.ok]; exact ⟨hc, hs⟩)) (by rw [Row.ok]; exact ⟨hs, hww, yok, zok⟩), ?_, by omega, ?_, put_same, h9.wr pa pl, f09.wr hp⟩
            · rw [cnt_app, cnt_app, Row.ex, Row.ex]
              omega
            · rw [dep_app, dep_app, Row.dep, Row.dep]
              omega
          · exact other _ S3 h3 f3
        · with_reducible refine s_kF ?_
          exact other _ S2 h2 Fr.refl
      · with_reducible refine s_kF ?_
        exact other _ S2 h2 Fr.refl
    · rintro _ S2 ⟨rs, left, x1, x2, x3, x4, x5, x6, rfl, hok, hcnt, hl0, hdep, ep, h2, f2⟩
      refine ⟨trivial, ?_⟩
      walk_at "dl"
      exact hQ rs S2 hok (by omega) hdep h2 f2

set_option Elab.async false
set_option linter.all false
set_option maxRecDepth 100000
set_option maxHeartbeats 2000000
/-! P2f: parts drawn. -/
open PySem PySem.Spec PyProof.Rows L2 DL
theorem valD_put {κ : Type} [DecidableEq κ] {kvs : List (κ × D)} {k k' : κ} {v : D} : valD (putD kvs k v) k' = if k' = k then some v else valD kvs k' := by
  unfold putD
  by_cases h : (kvs.any fun kv => decide (kv.1 = k)) = true
  · rw [if_pos h]
    induction kvs with
    | nil => simp at h
    | cons p kvs ih =>
      obtain ⟨q, u⟩ := p
      unfold valD at ih ⊢
      by_cases e : q = k
      · subst e
        by_cases e' : k' = q
        · subst e'; simp
        · have e2 : ¬ q = k' := fun z => e' z.symm
          simp only [List.map_cons, if_true, List.find?_cons, decide_eq_false e2, if_neg e']
          clear ih h
          induction kvs with
          | nil => rfl
          | cons p kvs ih2 =>
            obtain ⟨q2, u2⟩ := p
            by_cases e3 : q2 = q
            · subst e3
              simp only [List.map_cons, if_true, List.find?_cons, decide_eq_false e2]
              exact ih2
            · by_cases e4 : q2 = k'
              · subst e4
                simp [e3]
              · simp only [List.map_cons, if_neg e3, List.find?_cons, decide_eq_false e4]
                exact ih2
      · have h2 : (kvs.any fun kv => decide (kv.1 = k)) = true := by simpa [e] using h
        by_cases e4 : q = k'
        · subst e4
          simp [e]
        · simp only [List.map_cons, if_neg e, List.find?_cons, decide_eq_false e4]
          exact ih h2
  · rw [if_neg h]
    unfold valD
    rw [List.find?_append]
    by_cases e : k' = k
    · subst e
      have : kvs.find? (fun kv => decide (kv.1 = k')) = none := by
        rw [List.find?_eq_none]
        intro x hx hd
        exact h (List.any_eq_true.mpr ⟨x, hx, hd⟩)
      rw [this]
      simp
    · have e2 : ¬ k = k' := fun z => e z.symm
      rw [if_neg e]
      cases q : kvs.find? (fun kv => decide (kv.1 = k')) with
      | none => simp [e2]
      | some x => simp
theorem Fr.none_ {a p : Addr} {S S' : Sto} (f : Fr a S S') (h : S' p = none) (pa : p ≠ a) : S p = none := by
  cases e : S p with
  | none => rfl
  | some o => rw [f p o pa e] at h; cases h
theorem rs_strs {S : Sto} {n : Nat} (zs : List Str) : (zs.map D.str).mapM (rs S n) = some (zs.map PyData.str) := by
  induction zs with
  | nil => rfl
  | cons z zs ih =>
    rw [List.map_cons, List.mapM_cons, ih]
    cases n <;> rfl
theorem rs_tupS {S : Sto} {fl : Bool} (zs : List Str) : rs S 40 (.tp fl (zs.map D.str)) = some (.tuple (zs.map PyData.str)) := by
  show (List.mapM (rs S 39) (zs.map D.str)).map PyData.tuple = _
  rw [rs_strs]
  rfl
theorem any_eqv (zs : List Str) (x : Str) : ((zs.map PyData.str).any fun z => PyData.eqv z (.str x)) = decide (x ∈ zs) := by
  induction zs with
  | nil => rfl
  | cons z zs ih =>
    rw [List.map_cons, List.any_cons, ih]
    have e : PyData.eqv (.str z) (.str x) = decide (z = x) := (dec_eqv_str z x).symm
    rw [e]
    by_cases h : z = x
    · subst h; simp
    · have h2 : ¬ x = z := fun q => h q.symm
      simp [h, h2]
structure Parts where
  words : List Str
  sources : List Str
  derived : List (Str × List Row)
  effects : List (Str × List Row)
def pairD (p : Str × List Row) : D := .tup [.str p.1, .tup (rowsD p.2)]
def Parts.d (x : Parts) : D := .tup [.tup (x.words.map D.str), .tp true (x.sources.map D.str), .tup (x.derived.map pairD), .tup (x.effects.map pairD)]
structure BodyOk (h : Shp) (rs : List Row) : Prop where
  ok : rowsOk h rs
  cnt : rowsCnt rs ≤ 16
  dep : rowsDep rs ≤ 3
structure PartsOk (x : Parts) (slots : List Str) (pk wr : Bool) : Prop where
  ww : Nms x.words
  w2 : 2 ≤ x.words.length
  w4 : x.words.length ≤ 4
  nn : Nms (x.sources ++ x.derived.map (·.1) ++ x.effects.map (·.1))
  s1 : 1 ≤ x.sources.length
  s4 : x.sources.length ≤ 4
  d6 : x.derived.length ≤ 6
  e4 : x.effects.length ≤ 4
  sl : ∀ z ∈ slots, NmOk z
  der : ∀ i p, x.derived[i]? = some p → BodyOk ⟨true, false, false, x.words, x.sources, x.sources ++ (x.derived.take i).map (·.1), slots⟩ p.2
  eff : ∀ p ∈ x.effects, BodyOk ⟨false, pk, wr, x.words, x.sources, x.sources ++ x.derived.map (·.1), slots⟩ p.2
theorem newobj {ns : List Int} {a l p : Addr} {S S' : Sto} {o : O} (h : StA ns a l S') (f : Fr a S S') (hp : S' p = none) :
    StA ns a l (DL.put S' p o) ∧ Fr a S (DL.put S' p o) ∧ p ≠ a ∧ S p = none ∧ (∀ b x, S' b = some x → DL.put S' p o b = some x) ∧ DL.put S' p o p = some o := by
  obtain ⟨pa, pl⟩ := h.fresh hp
  refine ⟨h.wr pa pl, f.new hp, pa, f.none_ hp pa, fun b x e => ?_, put_same⟩
  rw [put_ne (fun z => by subst z; rw [hp] at e; cases e)]
  exact e
theorem wrobj {ns : List Int} {a l p : Addr} {S S' : Sto} {o o' : O} (h : StA ns a l S') (f : Fr a S S') (pa : p ≠ a) (pl : l ≠ p) (hp : S p = none) :
    StA ns a l (DL.put S' p o) ∧ Fr a S (DL.put S' p o) ∧ (∀ b x, b ≠ p → S' b = some x → DL.put S' p o b = some x) ∧ DL.put S' p o p = some o :=
  ⟨h.wr pa pl, f.wr hp, fun b x hb e => by rw [put_ne hb]; exact e, put_same⟩
theorem cut_drop1 (zs : List Str) : DL.cutD (zs.map D.str) (some 1) none = (zs.drop 1).map D.str := by
  unfold DL.cutD
  have e1 : HT.sIx (zs.map D.str).length 0 (some 1) = min 1 zs.length := by rw [List.length_map]; rfl
  have e2 : HT.sIx (zs.map D.str).length (zs.map D.str).length none = zs.length := by rw [List.length_map]; rfl
  rw [e1, e2]
  cases zs with
  | nil => rfl
  | cons z zs =>
    have : min 1 (z :: zs).length = 1 := by simp
    rw [this, List.map_cons, List.drop_one, List.drop_one, List.tail_cons, List.tail_cons]
    rw [List.take_of_length_le (by simp)]
theorem cut_take (zs : List Str) (k : Nat) : DL.cutD (zs.map D.str) none (some (k : Int)) = (zs.take k).map D.str := by
  unfold DL.cutD
  have e1 : HT.sIx (zs.map D.str).length 0 none = 0 := rfl
  have e2 : HT.sIx (zs.map D.str).length (zs.map D.str).length (some (k : Int)) = min k zs.length := by
    rw [List.length_map]
    exact HT.sIx_nat _ _ _
  rw [e1, e2, List.drop_zero, Nat.sub_zero, List.map_take]
  by_cases h : k ≤ zs.length
  · rw [Nat.min_eq_left h]
  · rw [Nat.min_eq_right (by omega), List.take_of_length_le (by simp), List.take_of_length_le (by simp; omega)]
theorem nms_swap {ws : List Str} {n : Str} (h : Nms ws) (hn : NmOk n) (hx : n ∉ ws) : Nms (ws.drop 1 ++ [n]) := by
  refine ⟨fun z hz => ?_, ?_⟩
  · rcases List.mem_append.mp hz with q | q
    · exact h.1 z (List.mem_of_mem_drop q)
    · rw [List.mem_singleton.mp q]; exact hn
  · refine List.nodup_append.mpr ⟨h.2.sublist (List.drop_sublist _ _), by simp, fun x hx1 y hy => ?_⟩
    rw [List.mem_singleton.mp hy]
    intro e
    subst e
    exact hx (List.mem_of_mem_drop hx1)
theorem putD_len {κ : Type} [DecidableEq κ] {kvs : List (κ × D)} {k : κ} {v : D} : (putD kvs k v).length ≤ kvs.length + 1 := by
  unfold putD
  split
  · simp
  · simp
theorem mergeD_len : ∀ (more kvs : List (Key × D)), (mergeD kvs more).length ≤ kvs.length + more.length
  | [], kvs => by simp [mergeD]
  | p :: more, kvs => by
    have h := mergeD_len more (putD kvs p.1 p.2)
    have h2 := putD_len (kvs := kvs) (k := p.1) (v := p.2)
    have e : mergeD kvs (p :: more) = mergeD (putD kvs p.1 p.2) more := rfl
    rw [e, List.length_cons]
    omega
abbrev kv0 (ce sl : Addr) (so wo : List Str) : List (Key × D) := [(.inr "kind", .str "derived"), (.inr "cells", .ref ce), (.inr "sources", .tp true (so.map D.str)), (.inr "slots", .ref sl), (.inr "words", .tup (wo.map D.str))]
abbrev kv1 (ce sl : Addr) (so wo : List Str) : List (Key × D) := putD (putD (mergeD [] (kv0 ce sl so wo)) (.inr "peeks") (.bl false)) (.inr "writes") (.bl false)
theorem kv1_len {ce sl : Addr} {so wo : List Str} : (kv1 ce sl so wo).length ≤ 7 := by
  have h := mergeD_len (kv0 ce sl so wo) []
  have h1 := putD_len (kvs := mergeD [] (kv0 ce sl so wo)) (k := (.inr "peeks" : Key)) (v := .bl false)
  have h2 := putD_len (kvs := putD (mergeD [] (kv0 ce sl so wo)) (.inr "peeks") (.bl false)) (k := (.inr "writes" : Key)) (v := .bl false)
  simp at h
  show (putD (putD (mergeD [] (kv0 ce sl so wo)) (.inr "peeks") (.bl false)) (.inr "writes") (.bl false)).length ≤ 7
  omega
theorem kv1_ok {ce sl : Addr} {so wo slots : List Str} : ShD ⟨true, false, false, wo, so, so, slots⟩ sl ce (kv1 ce sl so wo) := by
  refine ⟨?_, ?_, ?_, ?_, ?_, ?_, ?_⟩ <;> (simp only [kv1, kv0, mergeD, List.foldl_cons, List.foldl_nil]; repeat (first | rw [valD_put, if_pos (by with_reducible rfl)] | rw [valD_put, if_neg (by decide +kernel)])) <;> rfl
theorem ShD.cells_put {h : Shp} {sl ce ce' : Addr} {kvs : List (Key × D)} {cs : List Str} (x : ShD h sl ce kvs) : ShD { h with cells := cs } sl ce' (putD kvs (.inr "cells") (.ref ce')) := by
  obtain ⟨k1, k2, k3, k4, k5, k6, k7⟩ := x
  refine ⟨?_, ?_, ?_, ?_, ?_, ?_, ?_⟩ <;> (first | rw [valD_put, if_pos (by with_reducible rfl)] | rw [valD_put, if_neg (by decide +kernel)]) <;> assumption
theorem ShD.eff_put {h : Shp} {sl ce : Addr} {kvs : List (Key × D)} {pk wr : Bool} (x : ShD h sl ce kvs) : ShD { h with der := false, pk := pk, wr := wr } sl ce (putD (putD (putD kvs (.inr "kind") (.str "effects")) (.inr "peeks") (.bl pk)) (.inr "writes") (.bl wr)) := by
  obtain ⟨k1, k2, k3, k4, k5, k6, k7⟩ := x
  refine ⟨?_, ?_, ?_, ?_, ?_, ?_, ?_⟩ <;> (repeat (first | rw [valD_put, if_pos (by with_reducible rfl)] | rw [valD_put, if_neg (by decide +kernel)])) <;> first | assumption | rfl
theorem parts_ok {K : PySem.W.Frag} {ns : List Int} {a l z : Addr} {S : Sto} {w s d e r : Int} {pk wr : Bool} {Q : DQ} {E : XQ} (hS : StA ns a l S) (ez : S z = some (.lst [.int w, .int s, .int d, .int e, .int r])) (za : z ≠ a)
    (w0 : 0 < w) (w3 : w ≤ 3) (s0 : 0 < s) (s4 : s ≤ 4) (d0 : 0 ≤ d) (d6 : d ≤ 6) (e0 : 0 ≤ e) (e4 : e ≤ 4) (r0 : 0 ≤ r) (r15 : r ≤ 15)
    (hQ : ∀ x slots S', PartsOk x slots pk wr → StA ns a l S' → Fr a S S' → Q x.d S') : sp__law_parts K [.ref a, .ref z, .bl pk, .bl wr] S Q E := by
  refine spB_mk rfl ?_
  unfold b__law_parts
  walk_at "dl"
  refine draw_ok hS w0 (log_small (by omega) (by omega)) fun mw S1 mw0 mw1 h1 f1 => ?_
  have z1 := f1 _ _ za ez
  walk_at "dl"
  refine draw_ok h1 s0 (log_small (by omega) (by omega)) fun ms S2 ms0 ms1 h2 f2 => ?_
  have z2 := f2 _ _ za z1
  walk_at "dl"
  refine draw_ok h2 (by omega) (log_small (by omega) (by omega)) fun md1 S3 a0 a1 h3 f3 => ?_
  have z3 := f3 _ _ za z2
  walk_at "dl"
  refine draw_ok h3 (by omega) (log_small (by omega) (by omega)) fun md2 S4 b0 b1 h4 f4 => ?_
  have z4 := f4 _ _ za z3
  walk_at "dl"
  refine draw_ok h4 (by omega) (log_small (by omega) (by omega)) fun me1 S5 c0 c1 h5 f5 => ?_
  have z5 := f5 _ _ za z4
  walk_at "dl"
  refine draw_ok h5 (by omega) (log_small (by omega) (by omega)) fun me2 S6 g0 g1 h6 f6 => ?_
  have z6 := f6 _ _ za z5
  walk_at "dl"
  obtain ⟨kw, ekw⟩ : ∃ k : Nat, 2 + mw = k := ⟨(2 + mw).toNat, by omega⟩
  obtain ⟨ks, eks⟩ : ∃ k : Nat, 1 + ms = k := ⟨(1 + ms).toNat, by omega⟩
  obtain ⟨kd, ekd⟩ : ∃ k : Nat, (if md2 > md1 then md2 else md1) = k := ⟨(if md2 > md1 then md2 else md1).toNat, by split <;> omega⟩
  obtain ⟨ke, eke⟩ : ∃ k : Nat, (if me2 > me1 then me2 else me1) = k := ⟨(if me2 > me1 then me2 else me1).toNat, by split <;> omega⟩
  have bd : kd ≤ 6 := by
    have : (if md2 > md1 then md2 else md1) ≤ 6 := by split <;> omega
    omega
  have be : ke ≤ 4 := by
    have : (if me2 > me1 then me2 else me1) ≤ 4 := by split <;> omega
    omega
  rw [ekw, eks, ekd, eke]
  refine names_ok h6 (by omega) fun p1 S7 ws wl wok ep1 sp1 h7 f7 => ?_
  have z7 := f7 _ _ za z6
  walk_at "dln"
  with_reducible refine s_seq ?_
  walk_at "dln"
  have ekn : (ks : Int) + (kd : Int) + (ke : Int) = ((ks + kd + ke : Nat) : Int) := by omega
  rw [ekn]
  refine names_ok h7 (by omega) fun nm S8 nms nl nok enm snm h8 f8 => ?_
  have z8 := f8 _ _ za z7
  obtain ⟨nma, nml⟩ := h7.fresh snm
  have f08 : Fr a S S8 := ((((((f1.trans f2).trans f3).trans f4).trans f5).trans f6).trans f7).trans f8
  have n0 : 0 < nms.length := by omega
  have en0 : L2.atI (nms.map D.str) 0 = some (.str nms[0]) := atI_nat (p := 0) (by simp [n0])
  walk_at "dln"
  with_reducible refine s_cut (fun env S9 => ∃ ws' : List Str, env = [some (.ref a), some (.ref z), some (.bl pk), some (.bl wr), some (.int kw), some (.int ks), some (.int kd), some (.int ke), some (.tup (ws'.map D.str)), some (.ref nm), none, none, none, none, none, none, none, none] ∧
    Nms ws' ∧ ws'.length = kw ∧ StA ns a l S9 ∧ Fr a S8 S9) ?_ ?_
  rotate_left
  · intro nx hnx
    walk_at "dln"
    refine draw_ok h8 (by decide) (by decide +kernel) fun r9 S9 _ _ h9 f9 => ?_
    have en9 := f9 _ _ nma enm
    walk_at "dln"
    with_reducible refine s_kAndB (fun hr => ?_) (fun hr => ?_)
    · walk_at "dln"
      refine s_inT (p := .str nms[0]) rfl (rs_tupS ws) ?_
      rw [any_eqv]
      walk_at "dln"
      with_reducible refine s_ifB (fun hin => ?_) (fun hin => ?_)
      · walk_at "dln"
        rw [cut_drop1]
        with_reducible refine s_kTp (szl (by simp)) ?_
        walk_at "dln"
        with_reducible refine s_addT (szl (by simp; omega)) ?_
        walk_at "dln"
        have e : (ws.drop 1).map D.str ++ [.str nms[0]] = (ws.drop 1 ++ [nms[0]]).map D.str := by simp
        rw [e]
        refine hnx _ _ ⟨ws.drop 1 ++ [nms[0]], rfl, nms_swap wok (nok.1 _ (List.getElem_mem n0)) (by simpa using hin), by simp; omega, h9, f9⟩
      · walk_at "dln"
        exact hnx _ _ ⟨ws, rfl, wok, wl, h9, f9⟩
    · walk_at "dln"
      exact hnx _ _ ⟨ws, rfl, wok, wl, h9, f9⟩
  rintro _ S9 ⟨ws', rfl, wok', wl', h9, f9⟩
  have z9 := f9 _ _ za z8
  have en9 := f9 _ _ nma enm
  have f09 : Fr a S S9 := f08.trans f9
  clear z1 z2 z3 z4 z5 z6 z7 z8 f08 ekn
  walk_at "dl"
  refine names_ok (many := 2) h9 (by decide) fun p3 S10 zs zl zok ep3 sp3 h10 f10 => ?_
  have z10 := f10 _ _ za z9
  have en10 := f10 _ _ nma en9
  have f010 : Fr a S S10 := f09.trans f10
  walk_at "dl"
  with_reducible refine s_kLs (szl (by simp)) fun p4 hp4 => ?_
  obtain ⟨h11, f11, p4a, p4S, k11, t11⟩ := newobj (o := .lst [.str nms[0]]) h10 f010 hp4
  have z11 := k11 _ _ z10
  have en11 := k11 _ _ en10
  have e311 := k11 _ _ ep3
  generalize DL.put S10 p4 (.lst [.str nms[0]]) = S11 at h11 f11 k11 t11 z11 en11 e311 ⊢
  walk_at "dl"
  refine s_addL e311 t11 (szl (by simp; omega)) fun sl hsl => ?_
  have esl : zs.map D.str ++ [.str nms[0]] = (zs ++ [nms[0]]).map D.str := by simp
  rw [esl]
  obtain ⟨h12, f12, sla, slS, k12, t12⟩ := newobj (o := .lst ((zs ++ [nms[0]]).map D.str)) h11 f11 hsl
  have z12 := k12 _ _ z11
  have en12 := k12 _ _ en11
  generalize DL.put S11 sl (.lst ((zs ++ [nms[0]]).map D.str)) = S12 at h12 f12 k12 t12 z12 en12 ⊢
  walk_at "dl"
  refine s_slL en12 fun q hq => ?_
  rw [cut_take]
  obtain ⟨h13, f13, qa, qS, k13, t13⟩ := newobj (o := .lst ((nms.take ks).map D.str)) h12 f12 hq
  have z13 := k13 _ _ z12
  have en13 := k13 _ _ en12
  have t12_13 := k13 _ _ t12
  generalize DL.put S12 q (.lst ((nms.take ks).map D.str)) = S13 at h13 f13 k13 t13 z13 en13 t12_13 ⊢
  walk_at "dl"
  refine s_disp fun sh hsh => ?_
  obtain ⟨h14, f14, sha, shS, k14, t14⟩ := newobj (o := .dic []) h13 f13 hsh
  have shl := (h13.fresh hsh).2
  have z14 := k14 _ _ z13
  have en14 := k14 _ _ en13
  have t12_14 := k14 _ _ t12_13
  have nsl : sl ≠ sh := fun x => by rw [x, hsh] at t12_13; cases t12_13
  have nnm : nm ≠ sh := fun x => by rw [x, hsh] at en13; cases en13
  have nz : z ≠ sh := fun x => by rw [x, hsh] at z13; cases z13
  generalize DL.put S13 sh (.dic []) = S14 at h14 f14 k14 t14 z14 en14 t12_14 ⊢
  walk_at "dl"
  refine s_listT fun ce hce => ?_
  obtain ⟨h15, f15, cea, ceS, k15, t15⟩ := newobj (o := .lst ((nms.take ks).map D.str)) h14 f14 hce
  have z15 := k15 _ _ z14
  have en15 := k15 _ _ en14
  have t12_15 := k15 _ _ t12_14
  have t14_15 := k15 _ _ t14
  have nce : ce ≠ sh := fun x => by rw [x, t14] at hce; cases hce
  generalize DL.put S14 ce (.lst ((nms.take ks).map D.str)) = S15 at h15 f15 k15 t15 z15 en15 t12_15 t14_15 ⊢
  walk_at "dl"
  refine s_kDi (kvs := kv0 ce sl (nms.take ks) ws') rfl t14_15 (by simp) ?_
  walk_at "dl"
  refine s_kgID put_same rfl (Nat.lt_of_le_of_lt (mergeD_len _ _) (by simp; exact szlt (by decide))) ?_
  walk_at "dl"
  refine s_kgID put_same rfl (Nat.lt_of_le_of_lt putD_len (Nat.lt_of_le_of_lt (Nat.succ_le_succ (mergeD_len _ _)) (by simp; exact szlt (by decide)))) ?_
  rw [put_put, put_put]
  obtain ⟨h16, f16, k16, t16⟩ := wrobj (o := .dic (kv1 ce sl (nms.take ks) ws')) (o' := .dic []) h15 f15 sha shl shS
  have z16 := k16 _ _ nz z15
  have en16 := k16 _ _ nnm en15
  have t12_16 := k16 _ _ nsl t12_15
  have t15_16 := k16 _ _ nce t15
  have shd := kv1_ok (ce := ce) (sl := sl) (so := nms.take ks) (wo := ws') (slots := zs ++ [nms[0]])
  have shn := kv1_len (ce := ce) (sl := sl) (so := nms.take ks) (wo := ws')
  generalize DL.put S15 sh (.dic (kv1 ce sl (nms.take ks) ws')) = S16 at h16 f16 k16 t16 z16 en16 t12_16 t15_16 ⊢
  generalize kv1 ce sl (nms.take ks) ws' = kvs1 at shd shn t16
  clear k11 k12 k13 k14 k15 k16 f15 h15 z15 en15 t12_15 t14_15 h14 f14 z14 en14 t12_14 t14 h13 f13 z13 en13 t12_13 t13 h12 f12 z12 en12 t12 h11 f11 z11 en11 e311 t11 h10 f10 f010 z10 en10 ep3 h9 f9 f09 z9 en9
  walk_at "dl"
  with_reducible refine s_kLs (szl (by simp)) fun dl hdl => ?_
  obtain ⟨h17, f17, dla, dlS, k17, t17⟩ := newobj (o := .lst []) h16 f16 hdl
  have dll := (h16.fresh hdl).2
  have z17 := k17 _ _ z16
  have en17 := k17 _ _ en16
  have t12_17 := k17 _ _ t12_16
  have t15_17 := k17 _ _ t15_16
  have t16_17 := k17 _ _ t16
  have ndz : z ≠ dl := fun x => by rw [x, hdl] at z16; cases z16
  have ndnm : nm ≠ dl := fun x => by rw [x, hdl] at en16; cases en16
  have ndsl : sl ≠ dl := fun x => by rw [x, hdl] at t12_16; cases t12_16
  have ndce : ce ≠ dl := fun x => by rw [x, hdl] at t15_16; cases t15_16
  have ndsh : sh ≠ dl := fun x => by rw [x, hdl] at t16; cases t16
  generalize DL.put S16 dl (.lst []) = S17 at h17 f17 k17 t17 z17 en17 t12_17 t15_17 t16_17 ⊢
  walk_at "dl"
  with_reducible refine s_kR1 (by omega) (by omega) ?_
  walk_at "dl"
  have sll : ∀ y ∈ zs ++ [nms[0]], NmOk y := fun y hy => by
    rcases List.mem_append.mp hy with q | q
    · exact zok.1 y q
    · rw [List.mem_singleton.mp q]; exact nok.1 _ (List.getElem_mem n0)
  have ksb : 1 ≤ ks ∧ ks ≤ 4 := by omega
  have kwb : 2 ≤ kw ∧ kw ≤ 4 := by omega
  have sl3 : (zs ++ [nms[0]]).length = 3 := by simp [zl]
  refine for_ix (fun i env S' => ∃ (x14 x15 x16 : Option D) (ce' : Addr) (kvs : List (Key × D)) (dv : List (Str × List Row)), env = [some (.ref a), some (.ref z), some (.bl pk), some (.bl wr), some (.int kw), some (.int ks), some (.int kd), some (.int ke), some (.tup (ws'.map D.str)), some (.ref nm), some (.ref sl), some (.tp true ((nms.take ks).map D.str)), some (.ref sh), some (.ref dl), x14, x15, x16, none] ∧
    dv.map (·.1) = (nms.drop ks).take i ∧ dv.length = i ∧ (∀ j p, dv[j]? = some p → BodyOk ⟨true, false, false, ws', nms.take ks, nms.take (ks + j), zs ++ [nms[0]]⟩ p.2) ∧
    S' z = some (.lst [.int w, .int s, .int d, .int e, .int r]) ∧ S' nm = some (.lst (nms.map D.str)) ∧ S' sl = some (.lst ((zs ++ [nms[0]]).map D.str)) ∧ S' sh = some (.dic kvs) ∧ kvs.length ≤ 7 + i ∧
    ShD ⟨true, false, false, ws', nms.take ks, nms.take (ks + i), zs ++ [nms[0]]⟩ sl ce' kvs ∧ S' ce' = some (.lst ((nms.take (ks + i)).map D.str)) ∧ ce' ≠ a ∧ ce' ≠ dl ∧ S' dl = some (.lst (dv.map pairD)) ∧ StA ns a l S' ∧ Fr a S S') _ 0 ?_ ?_ ?_
  · exact ⟨_, _, _, ce, kvs1, [], rfl, by simp, rfl, fun j p hj => by simp at hj, z17, en17, t12_17, t16_17, shn, shd, t15_17, cea, ndce, t17, h17, f17⟩
  · rintro i x _ S2 hx ⟨x14, x15, x16, ce', kvs, dv, rfl, dn, dlen, dok, ez2, en2, es2, eh2, hl2, shd2, ec2, ca2, ndc, ed2, hS2, f2'⟩ nx hnx
    obtain ⟨rfl, hi⟩ := rng_at hx
    rw [Nat.zero_add] at dlen shd2 ec2 dn hl2 hnx
    refine ⟨trivial, ?_⟩
    refine s_gNm ?_
    have hik : i < kd := by simpa using hi
    have hnm : L2.atI (nms.map D.str) ((ks : Int) + (i : Int)) = some (.str nms[ks + i]) := by
      have e : (ks : Int) + (i : Int) = ((ks + i : Nat) : Int) := by omega
      rw [e]
      exact atI_nat (by simp [show ks + i < nms.length by omega])
    have hw2 : ShW ⟨true, false, false, ws', nms.take ks, nms.take (ks + i), zs ++ [nms[0]]⟩ := ⟨by show 0 < ws'.length; omega, by show ws'.length ≤ 100; omega, by simp; omega, by simp; omega, by simp; omega, by simp; omega, by simp, by show (zs ++ [nms[0]]).length ≤ 100; omega, fun _ => ⟨rfl, rfl⟩⟩
    walk_at "dl"
    refine rows_ok hw2 5 hS2 ⟨⟨kvs, eh2, shd2⟩, es2, ec2, sha, sla, ca2⟩ (by decide) (by decide) (by decide) r0 (by omega) fun rs S3 rok rcnt rdep h3 f3 => ?_
    have ez3 := f3 _ _ za ez2
    have en3 := f3 _ _ nma en2
    have es3 := f3 _ _ sla es2
    have eh3 := f3 _ _ sha eh2
    have ec3 := f3 _ _ ca2 ec2
    have ed3 := f3 _ _ dla ed2
    have rl : rs.length ≤ 900 := by
      have := cnt_eq rs
      omega
    walk_at "dln"
    with_reducible refine s_cut (fun env S4 => ∃ rs' : List Row, env = [some (.ref a), some (.ref z), some (.bl pk), some (.bl wr), some (.int kw), some (.int ks), some (.int kd), some (.int ke), some (.tup (ws'.map D.str)), some (.ref nm), some (.ref sl), some (.tp true ((nms.take ks).map D.str)), some (.ref sh), some (.ref dl), some (.int i), some (.str nms[ks + i]), some (.tup (rowsD rs')), none] ∧ BodyOk ⟨true, false, false, ws', nms.take ks, nms.take (ks + i), zs ++ [nms[0]]⟩ rs' ∧ StA ns a l S4 ∧ Fr a S3 S4) ?_ ?_
    rotate_left
    · intro nx2 hnx2
      walk_at "dln"
      refine draw_ok h3 (by decide) (by decide +kernel) fun t S4 _ _ h4 f4 => ?_
      have es4 := f4 _ _ sla es3
      walk_at "dln"
      with_reducible refine s_ifD (fun ht => ?_) (fun ht => ?_)
      · walk_at "dln"
        refine draw_ok h4 (by decide) (by decide +kernel) fun t2 S5 t20 t21 h5 f5 => ?_
        have es5 := f5 _ _ sla es4
        obtain ⟨sv, hsv, esv⟩ := at_rng (zs := zs ++ [nms[0]]) t20 (by rw [List.length_map, sl3]; omega)
        walk_at "dln"
        with_reducible refine s_kTp (szl (by simp)) ?_
        walk_at "dln"
        with_reducible refine s_kTp (szl (by simp)) ?_
        walk_at "dln"
        with_reducible refine s_addT (szl (by rw [rowsD_len]; simp; omega)) ?_
        walk_at "dln"
        have e : rowsD rs ++ [.tup [.str "give", .str sv]] = rowsD (rs ++ [.give sv]) := by
          have q := rowsD_app rs (Row.give sv)
          rw [Row.d] at q
          exact q
        rw [e]
        exact hnx2 _ _ ⟨rs ++ [.give sv], rfl, ⟨ok_app (r := .give sv) rok (by rw [Row.ok]; exact ⟨rfl, hsv⟩), by rw [cnt_app, Row.ex]; omega, by rw [dep_app, Row.dep]; omega⟩, h5, f4.trans f5⟩
      · walk_at "dln"
        exact hnx2 _ _ ⟨rs, rfl, ⟨rok, by omega, by omega⟩, h4, f4⟩
    rintro _ S4 ⟨rs', rfl, bok, h4, f4⟩
    have ez4 := f4 _ _ za ez3
    have en4 := f4 _ _ nma en3
    have es4 := f4 _ _ sla es3
    have eh4 := f4 _ _ sha eh3
    have ec4 := f4 _ _ ca2 ec3
    have ed4 := f4 _ _ dla ed3
    have f04 : Fr a S S4 := (f2'.trans f3).trans f4
    walk_at "dl"
    with_reducible refine s_kTp (szl (by simp)) ?_
    walk_at "dl"
    with_reducible refine s_app ed4 (szlt (by rw [List.length_map]; omega)) ?_
    obtain ⟨h5, f5, k5, t5⟩ := wrobj (o := .lst (dv.map pairD ++ [.tup [.str nms[ks + i], .tup (rowsD rs')]])) (o' := .lst []) h4 f04 dla dll dlS
    have ez5 := k5 _ _ ndz ez4
    have en5 := k5 _ _ ndnm en4
    have es5 := k5 _ _ ndsl es4
    have eh5 := k5 _ _ ndsh eh4
    have ec5 := k5 _ _ ndc ec4
    generalize DL.put S4 dl (.lst (dv.map pairD ++ [.tup [.str nms[ks + i], .tup (rowsD rs')]])) = S5 at h5 f5 k5 t5 ez5 en5 es5 eh5 ec5 ⊢
    have dcs := shd2.cells
    walk_at "dl"
    with_reducible refine s_kLs (szl (by simp)) fun p6 hp6 => ?_
    obtain ⟨h6', f6', p6a, p6S, k6, t6⟩ := newobj (o := .lst [.str nms[ks + i]]) h5 f5 hp6
    have ez6 := k6 _ _ ez5
    have en6 := k6 _ _ en5
    have es6 := k6 _ _ es5
    have eh6 := k6 _ _ eh5
    have ec6 := k6 _ _ ec5
    have ed6 := k6 _ _ t5
    generalize DL.put S5 p6 (.lst [.str nms[ks + i]]) = S6' at h6' f6' k6 t6 ez6 en6 es6 eh6 ec6 ed6 ⊢
    walk_at "dl"
    refine s_addL ec6 t6 (szl (by simp; omega)) fun ce2 hce2 => ?_
    have ecs : (nms.take (ks + i)).map D.str ++ [.str nms[ks + i]] = (nms.take (ks + (i + 1))).map D.str := by
      rw [show ks + (i + 1) = (ks + i) + 1 by omega, List.take_succ, List.getElem?_eq_getElem (show ks + i < nms.length by omega), List.map_append]
      rfl
    rw [ecs]
    obtain ⟨h7', f7', ce2a, ce2S, k7, t7⟩ := newobj (o := .lst ((nms.take (ks + (i + 1))).map D.str)) h6' f6' hce2
    have ez7 := k7 _ _ ez6
    have en7 := k7 _ _ en6
    have es7 := k7 _ _ es6
    have eh7 := k7 _ _ eh6
    have ed7 := k7 _ _ ed6
    have ncd2 : ce2 ≠ dl := fun x => by rw [x, ed6] at hce2; cases hce2
    have nce2 : ce2 ≠ sh := fun x => by rw [x, eh6] at hce2; cases hce2
    generalize DL.put S6' ce2 (.lst ((nms.take (ks + (i + 1))).map D.str)) = S7' at h7' f7' k7 t7 ez7 en7 es7 eh7 ed7 ⊢
    walk_at "dl"
    refine s_kgID eh7 rfl (szlt (by omega)) ?_
    obtain ⟨h8', f8', k8, t8⟩ := wrobj (o := .dic (putD kvs (.inr "cells") (.ref ce2))) (o' := .lst []) h7' f7' sha shl shS
    have pl := putD_len (kvs := kvs) (k := (.inr "cells" : Key)) (v := .ref ce2)
    refine hnx _ _ ⟨_, _, _, ce2, _, dv ++ [(nms[ks + i], rs')], rfl, ?_, by simp [dlen], ?_, k8 _ _ nz ez7, k8 _ _ nnm en7, k8 _ _ nsl es7, t8, by omega, shd2.cells_put, k8 _ _ nce2 t7, ce2a, ncd2, ?_, h8', f8'⟩
    · rw [List.map_append, dn, List.take_succ, List.getElem?_drop, List.getElem?_eq_getElem (show ks + i < nms.length by omega)]
      rfl
    · intro j p hj
      by_cases hji : j < dv.length
      · rw [List.getElem?_append_left hji] at hj
        exact dok j p hj
      · rw [List.getElem?_append_right (by omega)] at hj
        have ej : j = i := by
          have := (List.getElem?_eq_some_iff.mp hj).1
          simp at this
          omega
        subst ej
        rw [dlen, Nat.sub_self] at hj
        cases hj
        exact bok
    · have e := k8 _ _ ndsh.symm ed7
      rw [List.map_append]
      exact e
  · rintro _ S2 ⟨x14, x15, x16, ce', kvs, dv, rfl, dn, dlen, dok, ez2, en2, es2, eh2, hl2, shd2, ec2, ca2, ndc, ed2, hS2, f2'⟩
    rw [Nat.zero_add, rng_len, Int.toNat_natCast] at dlen shd2 ec2 dn hl2
    refine ⟨trivial, ?_⟩
    walk_at "dl"
    refine s_kgID eh2 rfl (szlt (by omega)) ?_
    walk_at "dl"
    have pl1 := putD_len (kvs := kvs) (k := (.inr "kind" : Key)) (v := .str "effects")
    refine s_kgID put_same rfl (szlt (by omega)) ?_
    walk_at "dl"
    have pl2 := putD_len (kvs := putD kvs (.inr "kind") (.str "effects")) (k := (.inr "peeks" : Key)) (v := .bl pk)
    refine s_kgID put_same rfl (szlt (by omega)) ?_
    rw [put_put, put_put]
    have shd3 := shd2.eff_put (pk := pk) (wr := wr)
    obtain ⟨h3, f3, k3, t3⟩ := wrobj (o := .dic (putD (putD (putD kvs (.inr "kind") (.str "effects")) (.inr "peeks") (.bl pk)) (.inr "writes") (.bl wr))) (o' := .lst []) hS2 f2' sha shl shS
    have nch : ce' ≠ sh := fun x => by rw [x, eh2] at ec2; cases ec2
    have ez3 := k3 _ _ nz ez2
    have en3 := k3 _ _ nnm en2
    have es3 := k3 _ _ nsl es2
    have ec3 := k3 _ _ nch ec2
    have ed3 := k3 _ _ ndsh.symm ed2
    generalize putD (putD (putD kvs (.inr "kind") (.str "effects")) (.inr "peeks") (.bl pk)) (.inr "writes") (.bl wr) = kvs3 at shd3 t3 h3 f3 k3 ez3 en3 es3 ec3 ed3 ⊢
    generalize DL.put S2 sh (.dic kvs3) = S3 at t3 h3 f3 k3 ez3 en3 es3 ec3 ed3 ⊢
    walk_at "dl"
    with_reducible refine s_kLs (szl (by simp)) fun el hel => ?_
    obtain ⟨h4, f4, ela, elS, k4, t4⟩ := newobj (o := .lst []) h3 f3 hel
    have ell := (h3.fresh hel).2
    have ez4 := k4 _ _ ez3
    have en4 := k4 _ _ en3
    have es4 := k4 _ _ es3
    have ec4 := k4 _ _ ec3
    have ed4 := k4 _ _ ed3
    have eh4 := k4 _ _ t3
    have nez : z ≠ el := fun x => by rw [x, hel] at ez3; cases ez3
    have nenm : nm ≠ el := fun x => by rw [x, hel] at en3; cases en3
    have nesl : sl ≠ el := fun x => by rw [x, hel] at es3; cases es3
    have nece : ce' ≠ el := fun x => by rw [x, hel] at ec3; cases ec3
    have nedl : dl ≠ el := fun x => by rw [x, hel] at ed3; cases ed3
    have nesh : sh ≠ el := fun x => by rw [x, hel] at t3; cases t3
    generalize DL.put S3 el (.lst []) = S4 at h4 f4 k4 t4 ez4 en4 es4 ec4 ed4 eh4 ⊢
    walk_at "dl"
    with_reducible refine s_kR1 (by omega) (by omega) ?_
    walk_at "dl"
    refine for_ix (fun i env S' => ∃ (x14 x15 x16 : Option D) (ev : List (Str × List Row)), env = [some (.ref a), some (.ref z), some (.bl pk), some (.bl wr), some (.int kw), some (.int ks), some (.int kd), some (.int ke), some (.tup (ws'.map D.str)), some (.ref nm), some (.ref sl), some (.tp true ((nms.take ks).map D.str)), some (.ref sh), some (.ref dl), x14, x15, x16, some (.ref el)] ∧
      ev.map (·.1) = (nms.drop (ks + kd)).take i ∧ ev.length = i ∧ (∀ p ∈ ev, BodyOk ⟨false, pk, wr, ws', nms.take ks, nms.take (ks + kd), zs ++ [nms[0]]⟩ p.2) ∧
      S' z = some (.lst [.int w, .int s, .int d, .int e, .int r]) ∧ S' nm = some (.lst (nms.map D.str)) ∧ S' sl = some (.lst ((zs ++ [nms[0]]).map D.str)) ∧ S' sh = some (.dic kvs3) ∧
      S' ce' = some (.lst ((nms.take (ks + kd)).map D.str)) ∧ S' dl = some (.lst (dv.map pairD)) ∧ S' el = some (.lst (ev.map pairD)) ∧ StA ns a l S' ∧ Fr a S S') _ 0 ?_ ?_ ?_
    · exact ⟨_, _, _, [], rfl, by simp, rfl, fun p hp => by simp at hp, ez4, en4, es4, eh4, ec4, ed4, t4, h4, f4⟩
    · rintro i x _ S5 hx ⟨y14, y15, y16, ev, rfl, en', elen, eok, ez5, en5, es5, eh5, ec5, ed5, ee5, h5, f5⟩ nx hnx
      obtain ⟨rfl, hi⟩ := rng_at hx
      rw [Nat.zero_add] at elen en' hnx
      refine ⟨trivial, ?_⟩
      refine s_gNm ?_
      have hik : i < ke := by simpa using hi
      have hnm : L2.atI (nms.map D.str) ((ks : Int) + (kd : Int) + (i : Int)) = some (.str nms[ks + kd + i]) := by
        have e : (ks : Int) + (kd : Int) + (i : Int) = ((ks + kd + i : Nat) : Int) := by omega
        rw [e]
        exact atI_nat (by simp [show ks + kd + i < nms.length by omega])
      have hw2 : ShW ⟨false, pk, wr, ws', nms.take ks, nms.take (ks + kd), zs ++ [nms[0]]⟩ := ⟨by show 0 < ws'.length; omega, by show ws'.length ≤ 100; omega, by simp; omega, by simp; omega, by simp; omega, by simp; omega, by simp, by show (zs ++ [nms[0]]).length ≤ 100; omega, fun q => by cases q⟩
      walk_at "dl"
      refine rows_ok hw2 5 h5 ⟨⟨kvs3, eh5, shd3⟩, es5, ec5, sha, sla, ca2⟩ (by decide) (by decide) (by decide) r0 (by omega) fun rs S6' rok rcnt rdep h6' f6' => ?_
      have ez6 := f6' _ _ za ez5
      have en6 := f6' _ _ nma en5
      have es6 := f6' _ _ sla es5
      have eh6 := f6' _ _ sha eh5
      have ec6 := f6' _ _ ca2 ec5
      have ed6 := f6' _ _ dla ed5
      have ee6 := f6' _ _ ela ee5
      have rl : rs.length ≤ 900 := by
        have := cnt_eq rs
        omega
      walk_at "dln"
      with_reducible refine s_cut (fun env S7' => ∃ rs' : List Row, env = [some (.ref a), some (.ref z), some (.bl pk), some (.bl wr), some (.int kw), some (.int ks), some (.int kd), some (.int ke), some (.tup (ws'.map D.str)), some (.ref nm), some (.ref sl), some (.tp true ((nms.take ks).map D.str)), some (.ref sh), some (.ref dl), some (.int i), y15, some (.tup (rowsD rs')), some (.ref el)] ∧ BodyOk ⟨false, pk, wr, ws', nms.take ks, nms.take (ks + kd), zs ++ [nms[0]]⟩ rs' ∧ StA ns a l S7' ∧ Fr a S6' S7') ?_ ?_
      rotate_left
      · intro nx2 hnx2
        walk_at "dln"
        refine draw_ok h6' (by decide) (by decide +kernel) fun t S7' _ _ h7' f7' => ?_
        have es7 := f7' _ _ sla es6
        walk_at "dln"
        with_reducible refine s_ifD (fun ht => ?_) (fun ht => ?_)
        · walk_at "dln"
          refine draw_ok h7' (by decide) (by decide +kernel) fun t2 S8' t20 t21 h8' f8' => ?_
          have es8 := f8' _ _ sla es7
          obtain ⟨sv, hsv, esv⟩ := at_rng (zs := zs ++ [nms[0]]) t20 (by rw [List.length_map, sl3]; omega)
          walk_at "dln"
          with_reducible refine s_kTp (szl (by simp)) ?_
          walk_at "dln"
          with_reducible refine s_kTp (szl (by simp)) ?_
          walk_at "dln"
          with_reducible refine s_addT (szl (by rw [rowsD_len]; simp; omega)) ?_
          walk_at "dln"
          have e : rowsD rs ++ [.tup [.str "say", .str sv]] = rowsD (rs ++ [.say sv]) := by
            have q := rowsD_app rs (Row.say sv)
            rw [Row.d] at q
            exact q
          rw [e]
          exact hnx2 _ _ ⟨rs ++ [.say sv], rfl, ⟨ok_app (r := .say sv) rok (by rw [Row.ok]; exact ⟨rfl, hsv⟩), by rw [cnt_app, Row.ex]; omega, by rw [dep_app, Row.dep]; omega⟩, h8', f7'.trans f8'⟩
        · walk_at "dln"
          exact hnx2 _ _ ⟨rs, rfl, ⟨rok, by omega, by omega⟩, h7', f7'⟩
      rintro _ S7' ⟨rs', rfl, bok, h7', f7'⟩
      have ez7 := f7' _ _ za ez6
      have en7 := f7' _ _ nma en6
      have es7 := f7' _ _ sla es6
      have eh7 := f7' _ _ sha eh6
      have ec7 := f7' _ _ ca2 ec6
      have ed7 := f7' _ _ dla ed6
      have ee7 := f7' _ _ ela ee6
      walk_at "dl"
      with_reducible refine s_kTp (szl (by simp)) ?_
      walk_at "dl"
      with_reducible refine s_app ee7 (szlt (by rw [List.length_map]; omega)) ?_
      obtain ⟨h8', f8', k8, t8⟩ := wrobj (o := .lst (ev.map pairD ++ [.tup [.str nms[ks + kd + i], .tup (rowsD rs')]])) (o' := .lst []) h7' ((f5.trans f6').trans f7') ela ell elS
      walk_at "dl"
      refine hnx _ _ ⟨_, _, _, ev ++ [(nms[ks + kd + i], rs')], rfl, ?_, by simp [elen], ?_, k8 _ _ nez ez7, k8 _ _ nenm en7, k8 _ _ nesl es7, k8 _ _ nesh eh7, k8 _ _ nece ec7, k8 _ _ nedl ed7, ?_, h8', f8'⟩
      · rw [List.map_append, en', List.take_succ, List.getElem?_drop, List.getElem?_eq_getElem (show ks + kd + i < nms.length by omega)]
        rfl
      · intro p hp
        rcases List.mem_append.mp hp with q | q
        · exact eok p q
        · rw [List.mem_singleton.mp q]; exact bok
      · rw [List.map_append]
        exact t8
    · rintro _ S5 ⟨y14, y15, y16, ev, rfl, en', elen, eok, ez5, en5, es5, eh5, ec5, ed5, ee5, h5, f5⟩
      rw [Nat.zero_add, rng_len, Int.toNat_natCast] at elen en'
      refine ⟨trivial, ?_⟩
      walk_at "dl"
      with_reducible refine s_kTp (szl (by simp)) ?_
      have ed : dv.map (·.1) = (nms.drop ks).take kd := dn
      have tl : nms.take ks ++ dv.map (·.1) = nms.take (ks + kd) := by rw [ed, List.take_add]
      have tl2 : nms.take ks ++ dv.map (·.1) ++ ev.map (·.1) = nms := by
        rw [tl, en', List.take_of_length_le (l := nms.drop (ks + kd)) (by rw [List.length_drop]; omega), List.take_append_drop]
      refine hQ ⟨ws', nms.take ks, dv, ev⟩ (zs ++ [nms[0]]) S5 ⟨wok', by show 2 ≤ ws'.length; omega, by show ws'.length ≤ 4; omega, by show Nms (nms.take ks ++ dv.map (·.1) ++ ev.map (·.1)); rw [tl2]; exact nok, by simp; omega, by simp; omega, by show dv.length ≤ 6; omega, by show ev.length ≤ 4; omega, sll, fun i p hp => ?_, fun p hp => ?_⟩ h5 f5
      · have q := dok i p hp
        have hi : i ≤ kd := by
          have hh : i < dv.length := (List.getElem?_eq_some_iff.mp hp).1
          omega
        have e2 : nms.take ks ++ (dv.take i).map (·.1) = nms.take (ks + i) := by
          rw [List.map_take, ed, List.take_take, Nat.min_eq_left hi, List.take_add]
        show BodyOk ⟨true, false, false, ws', nms.take ks, nms.take ks ++ (dv.take i).map (·.1), zs ++ [nms[0]]⟩ p.2
        rw [e2]
        exact q
      · have q := eok p hp
        show BodyOk ⟨false, pk, wr, ws', nms.take ks, nms.take ks ++ dv.map (·.1), zs ++ [nms[0]]⟩ p.2
        rw [tl]
        exact q

set_option Elab.async false
set_option linter.all false
set_option maxRecDepth 100000
set_option maxHeartbeats 2000000
/-! P2g: words drawn; names judged. -/
open PySem PySem.Spec PyProof.Rows L2 DL
def kApp (p : Addr) (nx : Sto → Prop) : DQ := fun d S4 => match S4 p with
  | some (.lst ys) => ys.length < sizeLine ∧ nx (DL.put S4 p (.lst (ys ++ [d])))
  | _ => False
theorem s_kApp {p : Addr} {nx : Sto → Prop} {ys : List D} {d : D} {S : Sto} (e0 : S p = some (.lst ys)) (hl : ys.length < sizeLine) (h : nx (DL.put S p (.lst (ys ++ [d])))) : kApp p nx d S := by
  unfold kApp
  simp only [e0]
  exact ⟨hl, h⟩
/-- a comprehension without tests -/
theorem lc_ixY {g : GM} {m : EM} {G : Sto → Prop} {p : Addr} {Q : DQ} {env : Slo} (I : Nat → List D → Sto → Prop) (xs : List D) {S : Sto} (hp : S p = some (.lst [])) (h0 : I 0 [] S)
    (step : ∀ i x S ys, xs[i]? = some x → S p = some (.lst ys) → I i ys S → ∀ nx : Sto → Prop, (∀ s zs, s p = some (.lst zs) → I (i + 1) zs s → nx s) → G S ∧ g x env S fun env2 S2 => m env2 S2 (kApp p nx))
    (done : ∀ S ys, S p = some (.lst ys) → I xs.length ys S → G S ∧ Q (.ref p) S) : lcL g mYes m G p Q env xs S := by
  refine lc_ix I xs 0 hp h0 (fun i x S ys hx hp hi nx hnx => ?_) (fun S ys hp hi => done S ys hp (by rw [Nat.zero_add] at hi; exact hi))
  rw [Nat.zero_add] at hi hnx
  obtain ⟨q1, q2⟩ := step i x S ys hx hp hi nx hnx
  exact ⟨q1, q2⟩
/-- a tuple of words, one a source -/
theorem words_ok {K : PySem.W.Frag} {ns : List Int} {a l : Addr} {S : Sto} {x : Parts} {Q : DQ} {E : XQ} (hS : StA ns a l S) (w0 : 0 < x.words.length) (w1 : x.words.length ≤ 100) (s1 : x.sources.length ≤ 100)
    (hQ : ∀ (us : List Str) S', us.length = x.sources.length → (∀ u ∈ us, u ∈ x.words) → StA ns a l S' → Fr a S S' → Q (.tup (us.map D.str)) S') : sp__law_words K [.ref a, x.d] S Q E := by
  refine spB_mk rfl ?_
  unfold b__law_words
  unfold Parts.d
  walk_at "dl"
  intro p hp
  obtain ⟨h1, f1, pa, pS, k1, t1⟩ := newobj (o := .lst []) hS (Fr.refl (S := S)) hp
  have pl := (hS.fresh hp).2
  refine lc_ixY (fun i ys S' => ∃ us : List Str, ys = us.map D.str ∧ us.length = i ∧ (∀ u ∈ us, u ∈ x.words) ∧ StA ns a l S' ∧ Fr a S S') _ t1 ⟨[], rfl, rfl, fun u hu => by simp at hu, h1, f1⟩ ?_ ?_
  · rintro i y S2 ys hy hp2 ⟨us, rfl, ul, uo, h2, f2⟩ nx hnx
    refine ⟨trivial, ?_⟩
    refine s_gNm ?_
    walk_at "dl"
    refine draw_at h2 w0 w1 fun r S3 u hu eu h3 f3 => ?_
    have ep3 := f3 _ _ pa hp2
    have hi : i < x.sources.length := by
      have := (List.getElem?_eq_some_iff.mp hy).1
      simpa using this
    walk_at "dl"
    refine s_kApp ep3 (szlt (by simp; omega)) ?_
    refine hnx _ _ put_same ⟨us ++ [u], by simp, by simp [ul], fun v hv => ?_, h3.wr pa pl, (f2.trans f3).wr pS⟩
    rcases List.mem_append.mp hv with q | q
    · exact uo v q
    · rw [List.mem_singleton.mp q]; exact hu
  · rintro S2 ys hp2 ⟨us, rfl, ul, uo, h2, f2⟩
    refine ⟨trivial, ?_⟩
    walk_at "dl"
    exact hQ us S2 (by simpa using ul) uo h2 f2

set_option Elab.async false
set_option linter.all false
set_option maxRecDepth 100000
set_option maxHeartbeats 2000000
/-! P2h: names judged by the program. -/
open PySem PySem.Spec PyProof.Rows L2 DL
theorem cps_a : (Str.ofString "a").cps.toList = [97] := by decide +kernel
theorem cps_z : (Str.ofString "z").cps.toList = [122] := by decide +kernel
theorem le_a {c : Nat} (h : 97 ≤ c) : (!decide ((⟨#[c]⟩ : Str).cps.toList < (Str.ofString "a").cps.toList)) = true := by
  rw [cps_a]
  have : ¬ ([c] < [97]) := by
    intro q
    rw [List.cons_lt_cons_iff] at q
    rcases q with q | ⟨_, q⟩
    · omega
    · exact absurd q (List.not_lt_nil _)
  simp only [Bool.not_eq_true', decide_eq_false_iff_not]
  exact this
theorem le_z {c : Nat} (h : c ≤ 122) : (!decide ((Str.ofString "z").cps.toList < (⟨#[c]⟩ : Str).cps.toList)) = true := by
  rw [cps_z]
  have : ¬ ([122] < [c]) := by
    intro q
    rw [List.cons_lt_cons_iff] at q
    rcases q with q | ⟨_, q⟩
    · omega
    · exact absurd q (List.not_lt_nil _)
  simp only [Bool.not_eq_true', decide_eq_false_iff_not]
  exact this
theorem sgn_at {z : Str} {i : Nat} {x : D} (h : (sgnD z)[i]? = some x) : ∃ c, c ∈ z.cps.toList ∧ x = .str ⟨#[c]⟩ := by
  unfold sgnD at h
  rw [List.getElem?_map] at h
  cases e : z.cps.toList[i]? with
  | none => rw [e] at h; cases h
  | some c => rw [e] at h; exact ⟨c, List.mem_of_getElem? e, (Option.some.inj h).symm⟩
theorem is_name_ok {K : PySem.W.Frag} {S : Sto} {z : Str} {Q : DQ} {E : XQ} (hz : NmOk z) (hQ : Q (.bl true) S) : sp_is_name K [.str z] S Q E := by
  refine spB_mk rfl ?_
  unfold b_is_name
  have hl : z.length = z.cps.size := by unfold Str.length; rfl
  have h1 := hz.one
  have h8 := hz.eight
  walk_at "dl"
  rw [decide_eq_true (show (1 : Int) ≤ z.length by omega)]
  walk_at "dl"
  rw [decide_eq_true (show (z.length : Int) ≤ 8 by omega)]
  walk_at "dl"
  refine for_ix (fun i env S' => ∃ x1 : Option D, env = [some (.str z), x1] ∧ S' = S) _ 0 ⟨_, rfl, rfl⟩ ?_ ?_
  · rintro i x _ _ hx ⟨x1, rfl, rfl⟩ nx hnx
    obtain ⟨c, hc, rfl⟩ := sgn_at hx
    obtain ⟨c1, c2⟩ := hz.az c hc
    refine ⟨trivial, ?_⟩
    refine s_gNm ?_
    walk_at "dl"
    rw [le_a c1]
    walk_at "dl"
    rw [le_z c2]
    walk_at "dl"
    exact hnx _ _ ⟨_, rfl, rfl⟩
  · rintro _ _ ⟨x1, rfl, rfl⟩
    refine ⟨trivial, ?_⟩
    walk_at "dl"
    exact hQ
theorem are_names_ok {K : PySem.W.Frag} {fl : Bool} {S : Sto} {zs : List Str} {lo hi : Int} {Q : DQ} {E : XQ} (hz : Nms zs) (h1 : lo ≤ zs.length) (h2 : (zs.length : Int) ≤ hi) (hb : zs.length ≤ 50) (hQ : ∀ S', (∀ b o, S b = some o → S' b = some o) → Q (.bl true) S') : sp_are_names K [.tp fl (zs.map D.str), .int lo, .int hi] S Q E := by
  refine spB_mk rfl ?_
  unfold b_are_names
  walk_at "dl"
  rw [decide_eq_true (show lo ≤ ((zs.map D.str).length : Int) by simpa using h1)]
  walk_at "dl"
  rw [decide_eq_true (show ((zs.map D.str).length : Int) ≤ hi by simpa using h2)]
  walk_at "dl"
  refine s_set0 fun p hp => ?_
  walk_at "dl"
  refine for_ix (fun i env S' => ∃ (x4 : Option D) (f : Key → Bool) (n : Nat), env = [some (.tp fl (zs.map D.str)), some (.int lo), some (.int hi), some (.ref p), x4] ∧ S' p = some (.set f n) ∧ n ≤ i ∧ (∀ z, f (.inr z) = true → z ∈ zs.take i) ∧ ∀ b o, S b = some o → S' b = some o) _ 0 ?_ ?_ ?_
  · refine ⟨_, _, _, rfl, put_same, Nat.le_refl _, fun z h => (by cases h), fun b o e => ?_⟩
    rw [put_ne (fun q => by subst q; rw [hp] at e; cases e)]
    exact e
  · rintro i x _ S2 hx ⟨x4, f, n, rfl, ep, hn, hf, hk⟩ nx hnx
    rw [Nat.zero_add] at hn hf hnx
    refine ⟨trivial, ?_⟩
    refine s_gNm ?_
    have hi : i < zs.length := by
      have := (List.getElem?_eq_some_iff.mp hx).1
      simpa using this
    have ex : x = .str zs[i] := by
      rw [List.getElem?_map, List.getElem?_eq_getElem hi] at hx
      exact (Option.some.inj hx).symm
    subst ex
    walk_at "dl"
    refine is_name_ok (hz.1 _ (List.getElem_mem hi)) ?_
    walk_at "dl"
    refine s_inSet ep rfl ?_
    have hnew : f (.inr zs[i]) = false := by
      cases q : f (.inr zs[i]) with
      | false => rfl
      | true =>
        have hm := hf _ q
        have hnd := hz.2
        rw [← List.take_append_drop i zs, List.nodup_append] at hnd
        exact absurd rfl (hnd.2.2 _ hm _ (by rw [List.drop_eq_getElem_cons hi]; exact List.mem_cons_self))
    rw [hnew]
    walk_at "dl"
    have hsb : n + 1 < scanBound := by
      have q : scanBound = 4096 := rfl
      omega
    with_reducible refine s_kAd2 ep rfl hsb ?_
    walk_at "dl"
    refine hnx _ _ ⟨_, _, _, rfl, put_same, ?_, fun z h => ?_, fun b o e => ?_⟩
    · split <;> omega
    · rw [List.take_succ, List.getElem?_eq_getElem hi]
      rcases Bool.or_eq_true_iff.mp h with q | q
      · exact List.mem_append_left _ (hf z q)
      · have := of_decide_eq_true q
        cases this
        exact List.mem_append_right _ (List.mem_cons_self ..)
    · rw [put_ne (fun q => by subst q; rw [hp] at e; cases e)]
      exact hk b o e
  · rintro _ S2 ⟨x4, f, n, rfl, ep, hn, hf, hk⟩
    refine ⟨trivial, ?_⟩
    walk_at "dl"
    exact hQ S2 hk
theorem count_ok {K : PySem.W.Frag} : ∀ (n : Nat) (rs : List Row) {S : Sto} {Q : DQ} {E : XQ}, rowsDep rs < n → Q (.int (rowsCnt rs)) S → sp_count_rows K n [.tup (rowsD rs)] S Q E
  | 0, rs, S, Q, E, h, _ => absurd h (Nat.not_lt_zero _)
  | n + 1, rs, S, Q, E, h, hQ => by
    refine spB_mk rfl ?_
    unfold b_count_rows
    walk_at "dl"
    refine for_ix (fun i env S' => ∃ x : Option D, env = [some (.tup (rowsD rs)), some (.int ((rs.length + exSum (rs.take i) : Nat) : Int)), x] ∧ S' = S) _ 0 ?_ ?_ ?_
    · have e0 : ((rowsD rs).length : Int) = ((rs.length + exSum (rs.take 0) : Nat) : Int) := by
        rw [rowsD_len]
        simp [exSum]
      rw [e0]
      exact ⟨_, rfl, rfl⟩
    · rintro i x _ _ hx ⟨y, rfl, rfl⟩ nx hnx
      rw [Nat.zero_add] at hnx ⊢
      obtain ⟨r, hr, rfl⟩ := rowsD_at hx
      have hd := dep_mem (List.mem_of_getElem? hr)
      have et := exSum_take hr
      refine ⟨trivial, ?_⟩
      refine s_gNm ?_
      cases r with
      | ite s w y n' =>
        rw [Row.d]
        rw [Row.dep] at hd
        rw [Row.ex] at et
        walk_at "dl"
        refine count_ok n y (by omega) ?_
        walk_at "dl"
        refine count_ok n n' (by omega) ?_
        walk_at "dl"
        have e1 : ((rs.length + exSum (rs.take i) : Nat) : Int) + ((rowsCnt y : Int) + (rowsCnt n' : Int)) = ((rs.length + exSum (rs.take (i + 1)) : Nat) : Int) := by
          rw [et]
          omega
        rw [e1]
        exact hnx _ _ ⟨_, rfl, rfl⟩
      | _ =>
        rw [Row.d]
        rw [Row.ex] at et
        walk_at "dl"
        replace et : exSum (rs.take (i + 1)) = exSum (rs.take i) := et
        rw [← et]
        exact hnx _ _ ⟨_, rfl, rfl⟩
    · rintro _ _ ⟨y, rfl, rfl⟩
      refine ⟨trivial, ?_⟩
      walk_at "dl"
      rw [rowsD_len, Nat.zero_add, List.take_length, ← cnt_eq]
      exact hQ

set_option Elab.async false
set_option linter.all false
set_option maxRecDepth 100000
set_option maxHeartbeats 2000000
/-! P2i: pairs judged by the program. -/
open PySem PySem.Spec PyProof.Rows L2 DL
/-- all that was there stays -/
def Kp (S S' : Sto) : Prop := ∀ b o, S b = some o → S' b = some o
theorem Kp.refl {S : Sto} : Kp S S := fun _ _ e => e
theorem Kp.trans {S S1 S2 : Sto} (h : Kp S S1) (h' : Kp S1 S2) : Kp S S2 := fun b o e => h' b o (h b o e)
theorem Kp.wr {S S' : Sto} {p : Addr} {o : O} (h : Kp S S') (hp : S p = none) : Kp S (DL.put S' p o) := fun b o' e => by
  rw [put_ne (fun q => by subst q; rw [hp] at e; cases e)]
  exact h b o' e
theorem are_pairs_ok {K : PySem.W.Frag} {S : Sto} {ps : List (Str × List Row)} {most : Int} {tk : Addr} {kvs : List (Key × D)} {tn : List Str} {Q : DQ} {E : XQ} (et : S tk = some (.dic kvs)) (hk : ∀ z, (valD kvs (.inr z)).isSome = true → z ∈ tn) (hl : kvs.length ≤ 100)
    (hz : Nms (tn ++ ps.map (·.1))) (hm : (ps.length : Int) ≤ most) (hb : ps.length ≤ 50) (hQ : ∀ S', Kp S S' → Q (.bl true) S') : sp_are_pairs K [.tup (ps.map pairD), .int most, .ref tk] S Q E := by
  refine spB_mk rfl ?_
  unfold b_are_pairs
  walk_at "dl"
  rw [decide_eq_false (show ¬ most < ((ps.map pairD).length : Int) by simp; omega)]
  walk_at "dl"
  refine s_dict et fun p hp => ?_
  walk_at "dl"
  refine for_ix (fun i env S' => ∃ (x4 : Option D) (kv : List (Key × D)), env = [some (.tup (ps.map pairD)), some (.int most), some (.ref tk), some (.ref p), x4] ∧ S' p = some (.dic kv) ∧ kv.length ≤ 100 + i ∧ (∀ z, (valD kv (.inr z)).isSome = true → z ∈ tn ++ (ps.map (·.1)).take i) ∧ Kp S S') _ 0 ?_ ?_ ?_
  · exact ⟨_, _, rfl, put_same, by omega, fun z h => by simpa using hk z h, Kp.refl.wr hp⟩
  · rintro i x _ S2 hx ⟨x4, kv, rfl, ep, hn, hf, hkp⟩ nx hnx
    rw [Nat.zero_add] at hn hf hnx
    refine ⟨trivial, ?_⟩
    refine s_gNm ?_
    have hi : i < ps.length := by
      have := (List.getElem?_eq_some_iff.mp hx).1
      simpa using this
    have ex : x = .tup [.str ps[i].1, .tup (rowsD ps[i].2)] := by
      rw [List.getElem?_map, List.getElem?_eq_getElem hi] at hx
      exact (Option.some.inj hx).symm
    subst ex
    have hmem : ps[i].1 ∈ ps.map (·.1) := List.mem_map.mpr ⟨ps[i], List.getElem_mem hi, rfl⟩
    walk_at "dl"
    with_reducible refine s_ifB (fun h => absurd h (by simp)) (fun _ => ?_)
    walk_at "dl"
    refine is_name_ok (hz.1 _ (List.mem_append_right _ hmem)) ?_
    walk_at "dl"
    refine s_inD ep rfl ?_
    have hnew : (valD kv (.inr ps[i].1)).isSome = false := by
      cases q : (valD kv (.inr ps[i].1)).isSome with
      | false => rfl
      | true =>
        have hm2 := hf _ q
        have hnd := hz.2
        have hi2 : i < (ps.map (·.1)).length := by simpa using hi
        rw [← List.take_append_drop i (ps.map (·.1)), ← List.append_assoc, List.nodup_append] at hnd
        exact absurd rfl (hnd.2.2 _ hm2 _ (by rw [List.drop_eq_getElem_cons hi2]; simp))
    rw [hnew]
    walk_at "dl"
    refine s_kgID ep rfl (szlt (by omega)) ?_
    have pl := putD_len (kvs := kv) (k := (.inr ps[i].1 : Key)) (v := .bl true)
    refine hnx _ _ ⟨_, _, rfl, put_same, by omega, fun z h => ?_, hkp.wr hp⟩
    rw [valD_put] at h
    have e1 : (ps.map (·.1)).take (i + 1) = (ps.map (·.1)).take i ++ [ps[i].1] := by
      rw [List.take_succ, List.getElem?_map, List.getElem?_eq_getElem hi]
      rfl
    rw [e1, ← List.append_assoc]
    by_cases q : (Sum.inr z : Key) = .inr ps[i].1
    · cases q
      exact List.mem_append_right _ (List.mem_cons_self ..)
    · rw [if_neg q] at h
      exact List.mem_append_left _ (hf z h)
  · rintro _ S2 ⟨x4, kv, rfl, ep, hn, hf, hkp⟩
    refine ⟨trivial, ?_⟩
    walk_at "dl"
    exact hQ S2 hkp

set_option Elab.async false
set_option linter.all false
set_option maxRecDepth 100000
set_option maxHeartbeats 2000000
/-! P2j: bodies checked. -/
open PySem PySem.Spec PyProof.Rows L2 DL
structure FBc (K : PySem.W.Frag) : Prop where
  kind : FOk K (He.ga K "BodyCheck") "kind"
  words : FOk K (He.ga K "BodyCheck") "words"
  sources : FOk K (He.ga K "BodyCheck") "sources"
  readable : FOk K (He.ga K "BodyCheck") "readable"
/-- the check's object -/
structure Bc (K : PySem.W.Frag) (h : Shp) (b rd : Addr) (S : Sto) : Prop where
  ob : S b = some (.ins (He.ga K "BodyCheck") [("kind", .str (kindS h.der)), ("words", .tup (h.words.map D.str)), ("sources", .tp true (h.sources.map D.str)), ("readable", .ref rd)])
  rd_ : S rd = some (.lst (h.cells.map D.str))
/-- the names are names -/
structure ShN (h : Shp) : Prop where
  sl : ∀ z ∈ h.slots, NmOk z
  ce : ∀ z ∈ h.cells, NmOk z
  so : ∀ z ∈ h.sources, NmOk z
theorem rs_lstS {S : Sto} {a : Addr} {zs : List Str} (h : S a = some (.lst (zs.map D.str))) : rs S 40 (.ref a) = some (.list (zs.map PyData.str)) := by
  unfold rs
  simp only [h]
  rw [rs_strs]
  rfl
theorem pf_lt {n : Nat} {f : Str} {v : D} : ∀ {l : List (Str × D)}, l.length ≤ n → (putFd f v l).length ≤ n + 1
  | [], h => by simp [putFd]
  | (g, u) :: r, h => by
    unfold putFd
    split
    · simp at h ⊢; omega
    · cases n with
      | zero => simp at h
      | succ n =>
        have := pf_lt (n := n) (f := f) (v := v) (l := r) (by simpa using h)
        simp
        omega
theorem bc_init_ok {K : PySem.W.Frag} {S : Sto} {q : Addr} {k w s r : D} {Q : DQ} {E : XQ} (F : FBc K) (e : S q = some (.ins (He.ga K "BodyCheck") [])) (hQ : Q .non (DL.put S q (.ins (He.ga K "BodyCheck") [("kind", k), ("words", w), ("sources", s), ("readable", r)]))) :
    sp_BodyCheckU_initU K [.ref q, k, w, s, r] S Q E := by
  obtain ⟨f1, f2, f3, f4⟩ := F
  refine spB_mk rfl ?_
  unfold b_BodyCheckU_initU
  walk_at "dm"
  with_reducible refine s_kSf2 e f1 (by simp) ?_
  walk_at "dm"
  with_reducible refine s_kSf2 put_same f2 (by refine Nat.lt_of_le_of_lt (?_ : _ ≤ 20) (by decide); repeat (first | refine pf_lt ?_ | (simp; done))) ?_
  walk_at "dm"
  with_reducible refine s_kSf2 put_same f3 (by refine Nat.lt_of_le_of_lt (?_ : _ ≤ 20) (by decide); repeat (first | refine pf_lt ?_ | (simp; done))) ?_
  walk_at "dm"
  with_reducible refine s_kSf2 put_same f4 (by refine Nat.lt_of_le_of_lt (?_ : _ ≤ 20) (by decide); repeat (first | refine pf_lt ?_ | (simp; done))) ?_
  rw [put_put, put_put, put_put]
  exact hQ
theorem is_word_ok {K : PySem.W.Frag} {S : Sto} {h : Shp} {b rd : Addr} {w : Str} {Q : DQ} {E : XQ} (F : FBc K) (B : Bc K h b rd S) (hw : w ∈ h.words) (hQ : Q (.bl true) S) : sp_BodyCheck_is_word K [.ref b, .str w] S Q E := by
  obtain ⟨f1, f2, f3, f4⟩ := F
  have e := B.ob
  refine spB_mk rfl ?_
  unfold b_BodyCheck_is_word
  walk_at "dm"
  refine s_inT (p := .str w) rfl (rs_tupS h.words) ?_
  rw [any_eqv, decide_eq_true hw]
  exact hQ
theorem is_choice_ok {K : PySem.W.Frag} {S : Sto} {h : Shp} {b rd : Addr} {s w : Str} {y n : List Row} {d : Int} {Q : DQ} {E : XQ} (F : FBc K) (B : Bc K h b rd S) (N : ShN h) (hs : s ∈ h.slots) (hw : w ∈ h.words) (hd : d < 4) (hQ : Q (.bl true) S) :
    sp_BodyCheck_is_choice K [.ref b, (Row.ite s w y n).d, .int d] S Q E := by
  have e := B.ob
  refine spB_mk rfl ?_
  unfold b_BodyCheck_is_choice
  rw [Row.d]
  walk_at "dm"
  refine is_name_ok (N.sl _ hs) ?_
  walk_at "dm"
  refine is_word_ok F B hw ?_
  walk_at "dm"
  exact hQ
theorem is_row_ok {K : PySem.W.Frag} {S : Sto} {h : Shp} {b rd : Addr} {r : Row} {d : Int} {Q : DQ} {E : XQ} (F : FBc K) (B : Bc K h b rd S) (N : ShN h) (hr : r.ok h) (hd : r.dep ≠ 0 → d < 4) (hQ : Q (.bl true) S) :
    sp_BodyCheck_is_row K [.ref b, r.d, .int d] S Q E := by
  have F' := F
  obtain ⟨f1, f2, f3, f4⟩ := F
  have e := B.ob
  have e2 := B.rd_
  have gs : rs S 40 (.tup [.str "give", .str "say"]) = some (.tuple [.str "give", .str "say"]) := rs_tupS ["give", "say"]
  refine spB_mk rfl ?_
  unfold b_BodyCheck_is_row
  cases r with
  | read c s =>
    rw [Row.ok] at hr
    rw [Row.d]
    walk_at "dm"
    with_reducible refine s_kTp (szl (by simp)) ?_
    walk_at "dm"
    refine s_inT (p := .str "read") rfl gs ?_
    walk_at "dm"
    refine is_name_ok (N.ce _ hr.1) ?_
    walk_at "dm"
    refine is_name_ok (N.sl _ hr.2) ?_
    walk_at "dm"
    refine s_inL (p := .str c) e2 rfl (rs_lstS e2) ?_
    rw [any_eqv, decide_eq_true hr.1]
    exact hQ
  | peek c s =>
    rw [Row.ok] at hr
    rw [hr.1] at e
    rw [Row.d]
    walk_at "dm"
    with_reducible refine s_kTp (szl (by simp)) ?_
    walk_at "dm"
    refine s_inT (p := .str "peek") rfl gs ?_
    walk_at "dm"
    refine is_name_ok (N.ce _ hr.2.1) ?_
    walk_at "dm"
    refine is_name_ok (N.sl _ hr.2.2) ?_
    walk_at "dm"
    refine s_inL (p := .str c) e2 rfl (rs_lstS e2) ?_
    rw [any_eqv, decide_eq_true hr.2.1]
    exact hQ
  | put s w =>
    rw [Row.ok] at hr
    rw [Row.d]
    walk_at "dm"
    with_reducible refine s_kTp (szl (by simp)) ?_
    walk_at "dm"
    refine s_inT (p := .str "put") rfl gs ?_
    walk_at "dm"
    refine is_name_ok (N.sl _ hr.1) ?_
    walk_at "dm"
    refine is_word_ok F' B hr.2 ?_
    exact hQ
  | give s =>
    rw [Row.ok] at hr
    rw [hr.1] at e
    rw [Row.d]
    walk_at "dm"
    with_reducible refine s_kTp (szl (by simp)) ?_
    walk_at "dm"
    refine s_inT (p := .str "give") rfl gs ?_
    walk_at "dm"
    refine is_name_ok (N.sl _ hr.2) ?_
    exact hQ
  | say s =>
    rw [Row.ok] at hr
    rw [hr.1] at e
    rw [Row.d]
    walk_at "dm"
    with_reducible refine s_kTp (szl (by simp)) ?_
    walk_at "dm"
    refine s_inT (p := .str "say") rfl gs ?_
    walk_at "dm"
    refine is_name_ok (N.sl _ hr.2) ?_
    exact hQ
  | write c s =>
    rw [Row.ok] at hr
    rw [hr.1] at e
    rw [Row.d]
    walk_at "dm"
    with_reducible refine s_kTp (szl (by simp)) ?_
    walk_at "dm"
    refine s_inT (p := .str "write") rfl gs ?_
    walk_at "dm"
    refine is_name_ok (N.so _ hr.2.1) ?_
    walk_at "dm"
    refine is_name_ok (N.sl _ hr.2.2) ?_
    walk_at "dm"
    refine s_inT (p := .str c) rfl (rs_tupS h.sources) ?_
    rw [any_eqv, decide_eq_true hr.2.1]
    exact hQ
  | ite s w y n =>
    rw [Row.ok] at hr
    have hd4 : d < 4 := hd (by rw [Row.dep]; omega)
    have ed : (Row.ite s w y n).d = .tup [.str "if", .str s, .str w, .tup (rowsD y), .tup (rowsD n)] := by rw [Row.d]
    rw [ed]
    walk_at "dm"
    rw [← ed]
    exact is_choice_ok F' B N hr.1 hr.2.1 hd4 hQ

set_option Elab.async false
set_option linter.all false
set_option maxRecDepth 100000
set_option maxHeartbeats 2000000
/-! P2k: bodies checked: rows within rows. -/
open PySem PySem.Spec PyProof.Rows L2 DL
theorem numD_at {xs : List D} {i : Nat} {y : D} (h : (numD 0 xs)[i]? = some y) : ∃ x, xs[i]? = some x ∧ y = .tup [.int i, x] := by
  rw [numD_get] at h
  cases e : xs[i]? with
  | none => rw [e] at h; cases h
  | some x => rw [e] at h; exact ⟨x, rfl, by simpa using (Option.some.inj h).symm⟩
theorem s_isSN {g : Bool → Bool} {x : Str} {S : Sto} {Q : DQ} (h : Q (.bl (g false)) S) : vIsG g (.str x) .non S Q := h
theorem first_wrong_ok {K : PySem.W.Frag} {h : Shp} {b rd : Addr} (F : FBc K) (N : ShN h) : ∀ (n : Nat) (rs : List Row) {S : Sto} {pth : List D} {d : Int} {Q : DQ} {E : XQ}, Bc K h b rd S → rowsOk h rs → rowsDep rs < n → d + rowsDep rs ≤ 4 → pth.length + 3 * n ≤ 500 → Q .non S → sp_BodyCheck_first_wrong K n [.ref b, .tup (rowsD rs), .tup pth, .int d] S Q E
  | 0, rs, S, pth, d, Q, E, _, _, hn, _, _, _ => absurd hn (Nat.not_lt_zero _)
  | n + 1, rs, S, pth, d, Q, E, B, ok, hn, hd, hp, hQ => by
    refine spB_mk rfl ?_
    have e := B.ob
    unfold b_BodyCheck_first_wrong
    walk_at "dm"
    refine for_ix (fun i env S' => ∃ x4 x5 x6 x7 x8 : Option D, env = [some (.ref b), some (.tup (rowsD rs)), some (.tup pth), some (.int d), x4, x5, x6, x7, x8] ∧ S' = S) _ 0 ⟨_, _, _, _, _, rfl, rfl⟩ ?_ ?_
    · rintro i y _ S1 hy ⟨x4, x5, x6, x7, x8, rfl, rfl⟩ nx hnx
      obtain ⟨x, hx, rfl⟩ := numD_at hy
      obtain ⟨r, hr, rfl⟩ := rowsD_at hx
      have hm := List.mem_of_getElem? hr
      have hrd := dep_mem hm
      have hok := rowsOk_all.mp ok r hm
      refine ⟨trivial, ?_⟩
      walk_at "dm"
      with_reducible refine s_kTp (szl (by simp)) ?_
      walk_at "dm"
      with_reducible refine s_addT (szl (by simp; omega)) ?_
      walk_at "dm"
      refine is_row_ok F B N hok (by omega) ?_
      cases r with
      | ite s w yy nn =>
        rw [Row.ok] at hok
        rw [Row.dep] at hrd
        rw [Row.d]
        walk_at "dm"
        with_reducible refine s_kTp (szl (by simp)) ?_
        walk_at "dm"
        refine for_ix (fun j env S' => ∃ x7 x8 : Option D, env = [some (.ref b), some (.tup (rowsD rs)), some (.tup pth), some (.int d), some (.int i), some (.tup [.str "if", .str s, .str w, .tup (rowsD yy), .tup (rowsD nn)]), some (.tup (pth ++ [.int i])), x7, x8] ∧ S' = S1) _ 0 ⟨_, _, rfl, rfl⟩ ?_ ?_
        · rintro j z _ _ hz ⟨x7, x8, rfl, rfl⟩ nx2 hnx2
          refine ⟨trivial, ?_⟩
          rcases j with _ | _ | j
          · cases hz
            walk_at "dm"
            with_reducible refine s_kTp (szl (by simp)) ?_
            walk_at "dm"
            with_reducible refine s_addT (szl (by simp; omega)) ?_
            walk_at "dm"
            refine first_wrong_ok F N n yy B hok.2.2.1 (by omega) (by omega) (by simp; omega) ?_
            walk_at "dm"
            exact hnx2 _ _ ⟨_, _, rfl, rfl⟩
          · cases hz
            walk_at "dm"
            with_reducible refine s_kTp (szl (by simp)) ?_
            walk_at "dm"
            with_reducible refine s_addT (szl (by simp; omega)) ?_
            walk_at "dm"
            refine first_wrong_ok F N n nn B hok.2.2.2 (by omega) (by omega) (by simp; omega) ?_
            walk_at "dm"
            exact hnx2 _ _ ⟨_, _, rfl, rfl⟩
          · cases hz
        · rintro _ _ ⟨x7, x8, rfl, rfl⟩
          exact ⟨trivial, hnx _ _ ⟨_, _, _, _, _, rfl, rfl⟩⟩
      | _ =>
        rw [Row.d]
        walk_at "dm"
        exact hnx _ _ ⟨_, _, _, _, _, rfl, rfl⟩
    · rintro _ _ ⟨x4, x5, x6, x7, x8, rfl, rfl⟩
      refine ⟨trivial, ?_⟩
      walk_at "dm"
      exact hQ
theorem check_ok {K : PySem.W.Frag} {h : Shp} {b rd : Addr} {rs : List Row} {S : Sto} {pth : List D} {Q : DQ} {E : XQ} (F : FBc K) (N : ShN h) (B : Bc K h b rd S) (ok : BodyOk h rs) (hp : pth.length ≤ 100) (hQ : Q .non S) : sp_BodyCheck_check K [.ref b, .tup (rowsD rs), .tup pth] S Q E := by
  refine spB_mk rfl ?_
  have e := B.ob
  have h1 := ok.dep
  have h2 := ok.cnt
  unfold b_BodyCheck_check
  walk_at "dm"
  refine first_wrong_ok F N 6 rs B ok.ok (by omega) (by omega) (by omega) ?_
  walk_at "dm"
  refine count_ok 6 rs (by omega) ?_
  walk_at "dm"
  exact hQ

set_option Elab.async false
set_option linter.all false
set_option maxRecDepth 100000
set_option maxHeartbeats 2000000
/-! P2l: a program is made. -/
open PySem PySem.Spec PyProof.Rows L2 DL
def kPut (p : Addr) (y : D) (nx : Sto → Prop) : DQ := fun z S5 => match S5 p, keyD y with
  | some (.dic kvs), some k => kvs.length < sizeLine ∧ nx (DL.put S5 p (.dic (putD kvs k z)))
  | _, _ => False
def kPutK (p : Addr) (mv : EM) (env : Slo) (nx : Sto → Prop) : DQ := fun y S4 => mv env S4 (kPut p y nx)
theorem s_kPut {p : Addr} {y z : D} {nx : Sto → Prop} {S : Sto} {kvs : List (Key × D)} {k : Key} (e0 : S p = some (.dic kvs)) (ek : keyD y = some k) (hl : kvs.length < sizeLine) (h : nx (DL.put S p (.dic (putD kvs k z)))) : kPut p y nx z S := by
  unfold kPut
  simp only [e0, ek]
  exact ⟨hl, h⟩
theorem s_kPutK {p : Addr} {mv : EM} {env : Slo} {nx : Sto → Prop} {y : D} {S : Sto} (h : mv env S (kPut p y nx)) : kPutK p mv env nx y S := h
/-- a dict comprehension without tests, by places -/
theorem dc_ix {g : GM} {mk mv : EM} {G : Sto → Prop} {p : Addr} {Q : DQ} {env : Slo} (I : Nat → List (Key × D) → Sto → Prop) : ∀ (xs : List D) (i0 : Nat) {S : Sto} {kvs : List (Key × D)}, S p = some (.dic kvs) → I i0 kvs S →
    (∀ i x S kvs, xs[i]? = some x → S p = some (.dic kvs) → I (i0 + i) kvs S → ∀ nx : Sto → Prop, (∀ s kv, s p = some (.dic kv) → I (i0 + i + 1) kv s → nx s) → G S ∧ g x env S fun env2 S2 => mk env2 S2 (kPutK p mv env2 nx)) →
    (∀ S kvs, S p = some (.dic kvs) → I (i0 + xs.length) kvs S → G S ∧ Q (.ref p) S) → dcL g mYes mk mv G p Q env xs S
  | [], i0, S, kvs, hp, h0, _, done => done S kvs hp h0
  | x :: xs, i0, S, kvs, hp, h0, step, done => by
    have hh := step 0 x S kvs rfl hp h0 (dcL g mYes mk mv G p Q env xs) fun s kv hz h => ?_
    · exact hh
    refine dc_ix I xs (i0 + 1) hz h (fun i y s kv hy hz hi nx hnx => step (i + 1) y s kv hy hz (by rw [show i0 + (i + 1) = i0 + 1 + i by omega]; exact hi) nx fun s kv hz h => hnx s kv hz (by rw [show i0 + 1 + i + 1 = i0 + (i + 1) + 1 by omega]; exact h)) fun s kv hz h => ?_
    exact done s kv hz (by rw [List.length_cons, show i0 + (xs.length + 1) = i0 + 1 + xs.length by omega]; exact h)
structure FPr (K : PySem.W.Frag) : Prop where
  words : FOk K (He.ga K "Program") "words"
  sources : FOk K (He.ga K "Program") "sources"
  derived : FOk K (He.ga K "Program") "derived"
  effects : FOk K (He.ga K "Program") "effects"
def progO (K : PySem.W.Frag) (x : Parts) : O := .ins (He.ga K "Program") [("words", .tup (x.words.map D.str)), ("sources", .tp true (x.sources.map D.str)), ("derived", .tup (x.derived.map pairD)), ("effects", .tup (x.effects.map pairD))]
theorem Kp.new {S S' : Sto} {p : Addr} {o : O} (h : Kp S S') (hp : S' p = none) : Kp S (DL.put S' p o) := fun b o' e => by
  have e2 := h b o' e
  rw [put_ne (fun q => by subst q; rw [hp] at e2; cases e2)]
  exact e2
theorem Kp.none_ {S S' : Sto} {p : Addr} (h : Kp S S') (hp : S' p = none) : S p = none := by
  cases e : S p with
  | none => rfl
  | some o => rw [h p o e] at hp; cases hp
theorem Kp.fr {S S' : Sto} {p : Addr} (h : Kp S S') : Fr p S S' := fun b o _ e => h b o e
theorem Nms.left {xs ys : List Str} (h : Nms (xs ++ ys)) : Nms xs := ⟨fun z hz => h.1 z (List.mem_append_left _ hz), (List.nodup_append.mp h.2).1⟩
theorem take_names {ps : List (Str × List Row)} {i : Nat} {p : Str × List Row} (h : ps[i]? = some p) : (ps.take (i + 1)).map (·.1) = (ps.take i).map (·.1) ++ [p.1] := by
  rw [List.take_succ, h]
  simp
theorem pair_at {ps : List (Str × List Row)} {i : Nat} {y : D} (h : (ps.map pairD)[i]? = some y) : ∃ p, ps[i]? = some p ∧ y = .tup [.str p.1, .tup (rowsD p.2)] := by
  rw [List.getElem?_map] at h
  cases e : ps[i]? with
  | none => rw [e] at h; cases h
  | some p => rw [e] at h; exact ⟨p, rfl, (Option.some.inj h).symm⟩
theorem prog_init_ok {K : PySem.W.Frag} {S : Sto} {o : Addr} {x : Parts} {slots : List Str} {pk wr : Bool} {Q : DQ} {E : XQ} (F : FBc K) (G : FPr K) (P : PartsOk x slots pk wr) (eo : S o = some (.ins (He.ga K "Program") []))
    (hQ : ∀ S', Fr o S S' → S' o = some (progO K x) → Q .non S') : sp_ProgramU_initU K [.ref o, .tup (x.words.map D.str), .tp true (x.sources.map D.str), .tup (x.derived.map pairD), .tup (x.effects.map pairD)] S Q E := by
  have P2 := P
  obtain ⟨ww, w2, w4, nn, s1, s4, d6, e4, sl, der, eff⟩ := P
  have nsd : Nms (x.sources ++ x.derived.map (·.1)) := nn.left
  have ns : Nms x.sources := nsd.left
  refine spB_mk rfl ?_
  unfold b_ProgramU_initU
  walk_at "dm"
  refine are_names_ok ww (by omega) (by omega) (by omega) fun S1 k1 => ?_
  walk_at "dm"
  refine are_names_ok ns (by omega) (by omega) (by omega) fun S2 k2 => ?_
  have k02 : Kp S S2 := Kp.trans k1 k2
  clear k1 k2
  walk_at "dm"
  intro tk htk
  have k03 : Kp S (DL.put S2 tk (.dic [])) := k02.new htk
  have tkS : S tk = none := k02.none_ htk
  refine dc_ix (fun i kvs S' => kvs.length ≤ i ∧ (∀ z, (valD kvs (.inr z)).isSome = true → z ∈ x.sources.take i) ∧ Kp S S') _ 0 put_same ⟨Nat.le_refl _, fun z h => (by cases h), k03⟩ ?_ ?_
  · rintro i y S3 kvs hy ep ⟨hl, hv, k3⟩ nx hnx
    rw [Nat.zero_add] at hl hv hnx
    have hi : i < x.sources.length := by
      have := (List.getElem?_eq_some_iff.mp hy).1
      simpa using this
    have ey : y = .str x.sources[i] := by
      rw [List.getElem?_map, List.getElem?_eq_getElem hi] at hy
      exact (Option.some.inj hy).symm
    subst ey
    refine ⟨trivial, ?_⟩
    walk_at "dm"
    with_reducible refine s_kPutK ?_
    walk_at "dm"
    with_reducible refine s_kPut ep rfl (szlt (by omega)) ?_
    refine hnx _ _ put_same ⟨?_, fun z h => ?_, k3.wr tkS⟩
    · have := putD_len (kvs := kvs) (k := (.inr x.sources[i] : Key)) (v := .bl true)
      omega
    · rw [valD_put] at h
      rw [List.take_succ, List.getElem?_eq_getElem hi]
      by_cases q : (Sum.inr z : Key) = .inr x.sources[i]
      · cases q
        exact List.mem_append_right _ (List.mem_cons_self ..)
      · rw [if_neg q] at h
        exact List.mem_append_left _ (hv z h)
  rintro S3 kvs ep ⟨hl, hv, k3⟩
  rw [Nat.zero_add, List.length_map] at hl hv
  rw [List.take_length] at hv
  refine ⟨trivial, ?_⟩
  walk_at "dm"
  refine are_pairs_ok ep hv (by omega) nsd (by omega) (by omega) fun S4 k4 => ?_
  have ep4 := k4 _ _ ep
  have k04 : Kp S S4 := k3.trans k4
  walk_at "dmn"
  with_reducible refine s_seq ?_
  walk_at "dmn"
  refine for_ix (fun i env S' => ∃ (x7 : Option D) (kv : List (Key × D)), env = [some (.ref o), some (.tup (x.words.map D.str)), some (.tp true (x.sources.map D.str)), some (.tup (x.derived.map pairD)), some (.tup (x.effects.map pairD)), some (.ref tk), none, x7, none, none] ∧ S' tk = some (.dic kv) ∧ kv.length ≤ 4 + i ∧
    (∀ z, (valD kv (.inr z)).isSome = true → z ∈ x.sources ++ (x.derived.take i).map (·.1)) ∧ Kp S S') _ 0 ⟨_, _, rfl, ep4, by omega, fun z h => by simpa using hv z h, k04⟩ ?_ ?_
  · rintro i y _ S5 hy ⟨x7, kv, rfl, e5, hl5, hv5, k5⟩ nx hnx
    rw [Nat.zero_add] at hl5 hv5 hnx
    obtain ⟨p, hp, rfl⟩ := pair_at hy
    have hi : i < x.derived.length := (List.getElem?_eq_some_iff.mp hp).1
    refine ⟨trivial, ?_⟩
    walk_at "dm"
    refine s_kgID e5 rfl (szlt (by omega)) ?_
    have pl := putD_len (kvs := kv) (k := (.inr p.1 : Key)) (v := .bl true)
    refine hnx _ _ ⟨_, _, rfl, put_same, by omega, fun z h => ?_, k5.wr tkS⟩
    rw [valD_put] at h
    rw [take_names hp, ← List.append_assoc]
    by_cases q : (Sum.inr z : Key) = .inr p.1
    · cases q
      exact List.mem_append_right _ (List.mem_cons_self ..)
    · rw [if_neg q] at h
      exact List.mem_append_left _ (hv5 z h)
  rintro _ S5 ⟨x7, kv, rfl, e5, hl5, hv5, k5⟩
  rw [Nat.zero_add, List.length_map] at hl5 hv5
  rw [List.take_length] at hv5
  refine ⟨trivial, ?_⟩
  walk_at "dm"
  refine are_pairs_ok e5 hv5 (by omega) nn (by omega) (by omega) fun S6 k6 => ?_
  have k06 : Kp S S6 := k5.trans k6
  clear e5 hv5 hl5 k5 k6 ep4 k04 k4 ep hv hl k3
  walk_at "dm"
  refine s_listT fun rd hrd => ?_
  have k07 : Kp S (DL.put S6 rd (.lst (x.sources.map D.str))) := k06.new hrd
  have rdS : S rd = none := k06.none_ hrd
  have e7 : DL.put S6 rd (.lst (x.sources.map D.str)) rd = some (.lst (x.sources.map D.str)) := put_same
  generalize DL.put S6 rd (.lst (x.sources.map D.str)) = S7 at k07 e7 ⊢
  walk_at "dmn"
  with_reducible refine s_seq ?_
  walk_at "dmn"
  refine for_ix (fun i env S' => ∃ (x7 x9 : Option D), env = [some (.ref o), some (.tup (x.words.map D.str)), some (.tp true (x.sources.map D.str)), some (.tup (x.derived.map pairD)), some (.tup (x.effects.map pairD)), some (.ref tk), none, x7, some (.ref rd), x9] ∧
    S' rd = some (.lst ((x.sources ++ (x.derived.take i).map (·.1)).map D.str)) ∧ Kp S S') _ 0 ⟨_, _, rfl, by simpa using e7, k07⟩ ?_ ?_
  · rintro i y _ S8 hy ⟨x7, x9, rfl, e8, k8⟩ nx hnx
    rw [Nat.zero_add] at e8 hnx
    obtain ⟨y', hy', rfl⟩ := numD_at hy
    obtain ⟨p, hp, rfl⟩ := pair_at hy'
    have hi : i < x.derived.length := (List.getElem?_eq_some_iff.mp hp).1
    refine ⟨trivial, ?_⟩
    walk_at "dm"
    refine s_listL e8 fun r2 hr2 => ?_
    have k9 := k8.new (o := .lst ((x.sources ++ (x.derived.take i).map (·.1)).map D.str)) hr2
    have t9 : DL.put S8 r2 (.lst ((x.sources ++ (x.derived.take i).map (·.1)).map D.str)) r2 = _ := put_same
    have e9 : DL.put S8 r2 (.lst ((x.sources ++ (x.derived.take i).map (·.1)).map D.str)) rd = some (.lst ((x.sources ++ (x.derived.take i).map (·.1)).map D.str)) := by
      rw [put_ne (fun q => by subst q; rw [e8] at hr2; cases hr2)]
      exact e8
    generalize DL.put S8 r2 (.lst ((x.sources ++ (x.derived.take i).map (·.1)).map D.str)) = S9 at k9 t9 e9 ⊢
    walk_at "dm"
    intro q hq
    have qr : rd ≠ q := fun z => by subst z; rw [e9] at hq; cases hq
    have qr2 : r2 ≠ q := fun z => by subst z; rw [t9] at hq; cases hq
    refine bc_init_ok F put_same ⟨rfl, ?_⟩
    rw [put_put]
    have k10 := k9.new (o := .ins (He.ga K "BodyCheck") [("kind", .str "derived"), ("words", .tup (x.words.map D.str)), ("sources", .tp true (x.sources.map D.str)), ("readable", .ref r2)]) hq
    have B : Bc K ⟨true, false, false, x.words, x.sources, x.sources ++ (x.derived.take i).map (·.1), slots⟩ q r2 (DL.put S9 q (.ins (He.ga K "BodyCheck") [("kind", .str "derived"), ("words", .tup (x.words.map D.str)), ("sources", .tp true (x.sources.map D.str)), ("readable", .ref r2)])) :=
      ⟨put_same, (put_ne qr2).trans t9⟩
    have e10 : DL.put S9 q (.ins (He.ga K "BodyCheck") [("kind", .str "derived"), ("words", .tup (x.words.map D.str)), ("sources", .tp true (x.sources.map D.str)), ("readable", .ref r2)]) rd = _ := (put_ne qr).trans e9
    generalize DL.put S9 q (.ins (He.ga K "BodyCheck") [("kind", .str "derived"), ("words", .tup (x.words.map D.str)), ("sources", .tp true (x.sources.map D.str)), ("readable", .ref r2)]) = S10 at k10 B e10 ⊢
    have eb := B.ob
    walk_at "dm"
    with_reducible refine s_kTp (szl (by simp)) ?_
    walk_at "dm"
    refine check_ok F ⟨sl, fun z hz => ?_, fun z hz => ns.1 z hz⟩ B (der i p hp) (by simp) ?_
    · refine nsd.1 z ?_
      rcases List.mem_append.mp hz with q | q
      · exact List.mem_append_left _ q
      · refine List.mem_append_right _ ?_
        rw [List.map_take] at q
        exact List.mem_of_mem_take q
    walk_at "dm"
    with_reducible refine s_app e10 (szlt (by simp; omega)) ?_
    walk_at "dm"
    refine hnx _ _ ⟨_, _, rfl, ?_, k10.wr rdS⟩
    rw [put_same, take_names hp]
    simp
  rintro _ S8 ⟨x7, x9, rfl, e8, k8⟩
  rw [Nat.zero_add, numD_len, List.length_map, List.take_length] at e8
  refine ⟨trivial, ?_⟩
  walk_at "dmn"
  with_reducible refine s_seq ?_
  walk_at "dmn"
  refine for_ix (fun i env S' => ∃ (x7 x9 : Option D), env = [some (.ref o), some (.tup (x.words.map D.str)), some (.tp true (x.sources.map D.str)), some (.tup (x.derived.map pairD)), some (.tup (x.effects.map pairD)), some (.ref tk), none, x7, some (.ref rd), x9] ∧
    S' rd = some (.lst ((x.sources ++ x.derived.map (·.1)).map D.str)) ∧ Kp S S') _ 0 ⟨_, _, rfl, e8, k8⟩ ?_ ?_
  · rintro i y _ S9 hy ⟨x7, x9, rfl, e9, k9⟩ nx hnx
    obtain ⟨y', hy', rfl⟩ := numD_at hy
    obtain ⟨p, hp, rfl⟩ := pair_at hy'
    refine ⟨trivial, ?_⟩
    walk_at "dm"
    intro q hq
    have qr : rd ≠ q := fun z => by subst z; rw [e9] at hq; cases hq
    refine bc_init_ok F put_same ⟨rfl, ?_⟩
    rw [put_put]
    have k10 := k9.new (o := .ins (He.ga K "BodyCheck") [("kind", .str "effects"), ("words", .tup (x.words.map D.str)), ("sources", .tp true (x.sources.map D.str)), ("readable", .ref rd)]) hq
    have e10 : DL.put S9 q (.ins (He.ga K "BodyCheck") [("kind", .str "effects"), ("words", .tup (x.words.map D.str)), ("sources", .tp true (x.sources.map D.str)), ("readable", .ref rd)]) rd = _ := (put_ne qr).trans e9
    have B : Bc K ⟨false, pk, wr, x.words, x.sources, x.sources ++ x.derived.map (·.1), slots⟩ q rd (DL.put S9 q (.ins (He.ga K "BodyCheck") [("kind", .str "effects"), ("words", .tup (x.words.map D.str)), ("sources", .tp true (x.sources.map D.str)), ("readable", .ref rd)])) :=
      ⟨put_same, e10⟩
    generalize DL.put S9 q (.ins (He.ga K "BodyCheck") [("kind", .str "effects"), ("words", .tup (x.words.map D.str)), ("sources", .tp true (x.sources.map D.str)), ("readable", .ref rd)]) = S10 at k10 B e10 ⊢
    have eb := B.ob
    walk_at "dm"
    with_reducible refine s_kTp (szl (by simp)) ?_
    walk_at "dm"
    refine check_ok F ⟨sl, fun z hz => nsd.1 z hz, fun z hz => ns.1 z hz⟩ B (eff p (List.mem_of_getElem? hp)) (by simp) ?_
    walk_at "dm"
    exact hnx _ _ ⟨_, _, rfl, e10, k10⟩
  rintro _ S9 ⟨x7, x9, rfl, e9, k9⟩
  obtain ⟨f1, f2, f3, f4⟩ := G
  have eo9 := k9 _ _ eo
  refine ⟨trivial, ?_⟩
  walk_at "dm"
  with_reducible refine s_kSf2 eo9 f1 (by simp) ?_
  walk_at "dm"
  with_reducible refine s_kSf2 put_same f2 (by refine Nat.lt_of_le_of_lt (?_ : _ ≤ 20) (by decide); repeat (first | refine pf_lt ?_ | (simp; done))) ?_
  walk_at "dm"
  with_reducible refine s_kSf2 put_same f3 (by refine Nat.lt_of_le_of_lt (?_ : _ ≤ 20) (by decide); repeat (first | refine pf_lt ?_ | (simp; done))) ?_
  walk_at "dm"
  with_reducible refine s_kSf2 put_same f4 (by refine Nat.lt_of_le_of_lt (?_ : _ ≤ 20) (by decide); repeat (first | refine pf_lt ?_ | (simp; done))) ?_
  rw [put_put, put_put, put_put]
  exact hQ _ (k9.fr.put) put_same

set_option Elab.async false
set_option linter.all false
set_option maxRecDepth 100000
set_option maxHeartbeats 2000000
/-! P2m: runs of rows, as data; the run's object. -/
open PySem PySem.Spec PyProof.Rows L2 DL
structure RS where
  slots : Str → Str
  notes : List (Str × Str)
  peeks : List (Str × Str)
  says : List Str
  written : List (Str × Str)
  given : Option Str
def updF (f : Str → Str) (a b : Str) : Str → Str := fun z => if z = a then b else f z
def noteP (ps : List (Str × Str)) (c u : Str) : List (Str × Str) := if c ∈ ps.map (·.1) then ps else ps ++ [(c, u)]
mutual
def Row.run (T : Str → Str) : Row → RS → RS
  | .read c s, r => { r with notes := noteP r.notes c (T c), slots := updF r.slots s (T c) }
  | .peek c s, r => { r with peeks := noteP r.peeks c (T c), slots := updF r.slots s (T c) }
  | .put s w, r => { r with slots := updF r.slots s w }
  | .give s, r => { r with given := some (r.slots s) }
  | .say s, r => { r with says := r.says ++ [r.slots s] }
  | .write c s, r => { r with written := r.written ++ [(c, r.slots s)] }
  | .ite s w y n, r => if r.slots s = w then rowsRun T y r else rowsRun T n r
def rowsRun (T : Str → Str) : List Row → RS → RS
  | [], r => r
  | x :: rs, r => if r.given.isSome = true then r else rowsRun T rs (x.run T r)
end
theorem run_done {T : Str → Str} {r : RS} (h : r.given.isSome = true) : ∀ rs, rowsRun T rs r = r
  | [] => by rw [rowsRun]
  | x :: rs => by rw [rowsRun, if_pos h]
theorem run_app {T : Str → Str} : ∀ (xs ys : List Row) (r : RS), rowsRun T (xs ++ ys) r = rowsRun T ys (rowsRun T xs r)
  | [], ys, r => by rw [List.nil_append, rowsRun]
  | x :: xs, ys, r => by
    rw [List.cons_append, rowsRun, rowsRun]
    by_cases h : r.given.isSome = true
    · rw [if_pos h, if_pos h, run_done h]
    · rw [if_neg h, if_neg h, run_app xs ys]
theorem run_take {T : Str → Str} {rs : List Row} {i : Nat} {x : Row} {r : RS} (h : rs[i]? = some x) (hg : (rowsRun T (rs.take i) r).given = none) : rowsRun T (rs.take (i + 1)) r = x.run T (rowsRun T (rs.take i) r) := by
  rw [List.take_succ, h]
  show rowsRun T (rs.take i ++ [x]) r = _
  rw [run_app, rowsRun, if_neg (by rw [hg]; simp), rowsRun]
theorem run_stop {T : Str → Str} {rs : List Row} {i : Nat} {r : RS} (hg : (rowsRun T (rs.take i) r).given.isSome = true) : rowsRun T rs r = rowsRun T (rs.take i) r := by
  have : rs = rs.take i ++ rs.drop i := (List.take_append_drop i rs).symm
  conv => lhs; rw [this]
  rw [run_app, run_done hg]
theorem run_stop1 {T : Str → Str} {rs : List Row} {i : Nat} {x : Row} {r : RS} (h : rs[i]? = some x) (hg : (rowsRun T (rs.take i) r).given = none) (hx : (x.run T (rowsRun T (rs.take i) r)).given.isSome = true) : rowsRun T rs r = x.run T (rowsRun T (rs.take i) r) := by
  rw [← run_take h hg] at hx ⊢
  exact run_stop hx
def givD : Option Str → D
  | some z => .str z
  | none => .non
def prD (p : Str × Str) : D := .tup [.str p.1, .str p.2]
structure FTr (K : PySem.W.Frag) : Prop where
  name : FOk K (He.ga K "TrueRun") "name"
  default : FOk K (He.ga K "TrueRun") "default"
  slots : FOk K (He.ga K "TrueRun") "slots"
  given : FOk K (He.ga K "TrueRun") "given"
  over : FOk K (He.ga K "TrueRun") "over"
  told : FOk K (He.ga K "TrueRun") "told_words"
  notes : FOk K (He.ga K "TrueRun") "notes"
  peeks : FOk K (He.ga K "TrueRun") "peeks"
  says : FOk K (He.ga K "TrueRun") "says"
  written : FOk K (He.ga K "TrueRun") "written"
/-- the slots' dict -/
def SlR (kvs : List (Key × D)) (df : Str) (f : Str → Str) : Prop := ∀ z, (valD kvs (.inr z)).getD (.str df) = .str (f z)
theorem SlR.put {kvs : List (Key × D)} {df : Str} {f : Str → Str} {a b : Str} (h : SlR kvs df f) : SlR (putD kvs (.inr a) (.str b)) df (updF f a b) := fun z => by
  rw [valD_put]
  unfold updF
  by_cases q : z = a
  · subst q; simp
  · rw [if_neg (fun e => q (Sum.inr.inj e)), if_neg q]
    exact h z
/-- apart from one another, and new -/
structure Rd (S0 : Sto) (p sa na pa sy wr : Addr) : Prop where
  p_ : S0 p = none
  sa_ : S0 sa = none
  na_ : S0 na = none
  pa_ : S0 pa = none
  sy_ : S0 sy = none
  wr_ : S0 wr = none
  psa : p ≠ sa
  pna : p ≠ na
  ppa : p ≠ pa
  psy : p ≠ sy
  pwr : p ≠ wr
  sna : sa ≠ na
  spa : sa ≠ pa
  ssy : sa ≠ sy
  swr : sa ≠ wr
  npa : na ≠ pa
  nsy : na ≠ sy
  nwr : na ≠ wr
  qsy : pa ≠ sy
  qwr : pa ≠ wr
  ywr : sy ≠ wr
def runFs (nm df : Str) (sa tk na pa sy wr : Addr) (g : Option Str) : List (Str × D) := [("name", .str nm), ("default", .str df), ("slots", .ref sa), ("given", givD g), ("over", .bl g.isSome), ("told_words", .ref tk), ("notes", .ref na), ("peeks", .ref pa), ("says", .ref sy), ("written", .ref wr)]
/-- a run in the store -/
structure Rn (K : PySem.W.Frag) (S0 : Sto) (p sa na pa sy wr tk : Addr) (nm df : Str) (r : RS) (B : Nat) (S : Sto) : Prop where
  ob : S p = some (.ins (He.ga K "TrueRun") [("name", .str nm), ("default", .str df), ("slots", .ref sa), ("given", givD r.given), ("over", .bl r.given.isSome), ("told_words", .ref tk), ("notes", .ref na), ("peeks", .ref pa), ("says", .ref sy), ("written", .ref wr)])
  sl : ∃ kvs, S sa = some (.dic kvs) ∧ SlR kvs df r.slots ∧ kvs.length ≤ B
  no : S na = some (.lst (r.notes.map prD))
  pe : S pa = some (.lst (r.peeks.map prD))
  sa' : S sy = some (.lst (r.says.map D.str))
  wr' : S wr = some (.lst (r.written.map prD))
  b1 : r.notes.length ≤ B
  b2 : r.peeks.length ≤ B
  b3 : r.says.length ≤ B
  b4 : r.written.length ≤ B
  kp : Kp S0 S
section
variable {K : PySem.W.Frag} {S0 S : Sto} {p sa na pa sy wr tk : Addr} {nm df : Str} {r : RS} {B : Nat}
theorem Rn.more (h : Rn K S0 p sa na pa sy wr tk nm df r B S) {B' : Nat} (hB : B ≤ B') : Rn K S0 p sa na pa sy wr tk nm df r B' S := by
  obtain ⟨h1, ⟨kvs, e, s, l⟩, h3, h4, h5, h6, b1, b2, b3, b4, k⟩ := h
  exact ⟨h1, ⟨kvs, e, s, by omega⟩, h3, h4, h5, h6, by omega, by omega, by omega, by omega, k⟩
theorem Rn.setN (h : Rn K S0 p sa na pa sy wr tk nm df r B S) (d : Rd S0 p sa na pa sy wr) {ns : List (Str × Str)} (hl : ns.length ≤ B + 1) : Rn K S0 p sa na pa sy wr tk nm df { r with notes := ns } (B + 1) (DL.put S na (.lst (ns.map prD))) := by
  obtain ⟨h1, ⟨kvs, e, s, l⟩, h3, h4, h5, h6, b1, b2, b3, b4, k⟩ := h
  exact ⟨(put_ne d.pna).trans h1, ⟨kvs, (put_ne d.sna).trans e, s, by omega⟩, put_same, (put_ne d.npa.symm).trans h4, (put_ne d.nsy.symm).trans h5, (put_ne d.nwr.symm).trans h6, hl, by show r.peeks.length ≤ _; omega, by show r.says.length ≤ _; omega, by show r.written.length ≤ _; omega, k.wr d.na_⟩
theorem Rn.setP (h : Rn K S0 p sa na pa sy wr tk nm df r B S) (d : Rd S0 p sa na pa sy wr) {ns : List (Str × Str)} (hl : ns.length ≤ B + 1) : Rn K S0 p sa na pa sy wr tk nm df { r with peeks := ns } (B + 1) (DL.put S pa (.lst (ns.map prD))) := by
  obtain ⟨h1, ⟨kvs, e, s, l⟩, h3, h4, h5, h6, b1, b2, b3, b4, k⟩ := h
  exact ⟨(put_ne d.ppa).trans h1, ⟨kvs, (put_ne d.spa).trans e, s, by omega⟩, (put_ne d.npa).trans h3, put_same, (put_ne d.qsy.symm).trans h5, (put_ne d.qwr.symm).trans h6, by show r.notes.length ≤ _; omega, hl, by show r.says.length ≤ _; omega, by show r.written.length ≤ _; omega, k.wr d.pa_⟩
theorem Rn.setY (h : Rn K S0 p sa na pa sy wr tk nm df r B S) (d : Rd S0 p sa na pa sy wr) {ns : List Str} (hl : ns.length ≤ B + 1) : Rn K S0 p sa na pa sy wr tk nm df { r with says := ns } (B + 1) (DL.put S sy (.lst (ns.map D.str))) := by
  obtain ⟨h1, ⟨kvs, e, s, l⟩, h3, h4, h5, h6, b1, b2, b3, b4, k⟩ := h
  exact ⟨(put_ne d.psy).trans h1, ⟨kvs, (put_ne d.ssy).trans e, s, by omega⟩, (put_ne d.nsy).trans h3, (put_ne d.qsy).trans h4, put_same, (put_ne d.ywr.symm).trans h6, by show r.notes.length ≤ _; omega, by show r.peeks.length ≤ _; omega, hl, by show r.written.length ≤ _; omega, k.wr d.sy_⟩
theorem Rn.setW (h : Rn K S0 p sa na pa sy wr tk nm df r B S) (d : Rd S0 p sa na pa sy wr) {ns : List (Str × Str)} (hl : ns.length ≤ B + 1) : Rn K S0 p sa na pa sy wr tk nm df { r with written := ns } (B + 1) (DL.put S wr (.lst (ns.map prD))) := by
  obtain ⟨h1, ⟨kvs, e, s, l⟩, h3, h4, h5, h6, b1, b2, b3, b4, k⟩ := h
  exact ⟨(put_ne d.pwr).trans h1, ⟨kvs, (put_ne d.swr).trans e, s, by omega⟩, (put_ne d.nwr).trans h3, (put_ne d.qwr).trans h4, (put_ne d.ywr).trans h5, put_same, by show r.notes.length ≤ _; omega, by show r.peeks.length ≤ _; omega, by show r.says.length ≤ _; omega, hl, k.wr d.wr_⟩
theorem Rn.setS (h : Rn K S0 p sa na pa sy wr tk nm df r B S) (d : Rd S0 p sa na pa sy wr) {f : Str → Str} {kvs : List (Key × D)} (hs : SlR kvs df f) (hl : kvs.length ≤ B + 1) : Rn K S0 p sa na pa sy wr tk nm df { r with slots := f } (B + 1) (DL.put S sa (.dic kvs)) := by
  obtain ⟨h1, ⟨_, e, s, l⟩, h3, h4, h5, h6, b1, b2, b3, b4, k⟩ := h
  exact ⟨(put_ne d.psa).trans h1, ⟨kvs, put_same, hs, hl⟩, (put_ne d.sna.symm).trans h3, (put_ne d.spa.symm).trans h4, (put_ne d.ssy.symm).trans h5, (put_ne d.swr.symm).trans h6, by show r.notes.length ≤ _; omega, by show r.peeks.length ≤ _; omega, by show r.says.length ≤ _; omega, by show r.written.length ≤ _; omega, k.wr d.sa_⟩
theorem Rn.setG (h : Rn K S0 p sa na pa sy wr tk nm df r B S) (d : Rd S0 p sa na pa sy wr) {g : Str} : Rn K S0 p sa na pa sy wr tk nm df { r with given := some g } (B + 1) (DL.put S p (.ins (He.ga K "TrueRun") [("name", .str nm), ("default", .str df), ("slots", .ref sa), ("given", .str g), ("over", .bl true), ("told_words", .ref tk), ("notes", .ref na), ("peeks", .ref pa), ("says", .ref sy), ("written", .ref wr)])) := by
  obtain ⟨h1, ⟨kvs, e, s, l⟩, h3, h4, h5, h6, b1, b2, b3, b4, k⟩ := h
  exact ⟨put_same, ⟨kvs, (put_ne d.psa.symm).trans e, s, by omega⟩, (put_ne d.pna.symm).trans h3, (put_ne d.ppa.symm).trans h4, (put_ne d.psy.symm).trans h5, (put_ne d.pwr.symm).trans h6, by show r.notes.length ≤ _; omega, by show r.peeks.length ≤ _; omega, by show r.says.length ≤ _; omega, by show r.written.length ≤ _; omega, k.wr d.p_⟩
end
theorem has_cell_ok {K : PySem.W.Frag} {S : Sto} {na : Addr} {ps : List (Str × Str)} {c : Str} {Q : DQ} {E : XQ} (e : S na = some (.lst (ps.map prD))) (hQ : Q (.bl (decide (c ∈ ps.map (·.1)))) S) : sp_has_cell K [.ref na, .str c] S Q E := by
  refine spB_mk rfl ?_
  unfold b_has_cell
  walk_at "dm"
  refine for_ix (fun i env S' => ∃ x2 : Option D, env = [some (.ref na), some (.str c), x2] ∧ S' = S ∧ c ∉ (ps.take i).map (·.1)) _ 0 ⟨_, rfl, rfl, by simp⟩ ?_ ?_
  · rintro i y _ _ hy ⟨x2, rfl, rfl, hc⟩ nx hnx
    rw [Nat.zero_add] at hc hnx
    rw [List.getElem?_map] at hy
    cases q : ps[i]? with
    | none => rw [q] at hy; cases hy
    | some pr =>
      rw [q] at hy
      obtain rfl : prD pr = y := Option.some.inj hy
      refine ⟨e, ?_⟩
      unfold prD
      walk_at "dm"
      with_reducible refine s_ifD (fun h => ?_) (fun h => ?_)
      · walk_at "dm"
        rw [decide_eq_true (show c ∈ ps.map (·.1) from List.mem_map.mpr ⟨pr, List.mem_of_getElem? q, h⟩)] at hQ
        exact hQ
      · walk_at "dm"
        refine hnx _ _ ⟨_, rfl, rfl, ?_⟩
        rw [List.take_succ, q]
        intro hm
        rw [Option.toList_some, List.map_append] at hm
        rcases List.mem_append.mp hm with z | z
        · exact hc z
        · rw [List.map_singleton, List.mem_singleton] at z
          exact h z.symm
  · rintro _ _ ⟨x2, rfl, rfl, hc⟩
    refine ⟨e, ?_⟩
    walk_at "dm"
    rw [Nat.zero_add, List.length_map, List.take_length] at hc
    rw [decide_eq_false hc] at hQ
    exact hQ
section
variable {K : PySem.W.Frag} {S0 S : Sto} {p sa na pa sy wr tk : Addr} {nm df : Str} {r : RS} {B : Nat} {Q : DQ} {E : XQ} {c u s : Str}
theorem hear_ok (F : FTr K) (h : Rn K S0 p sa na pa sy wr tk nm df r B S) {tkv : List (Key × D)} (et : S0 tk = some (.dic tkv)) (ev : valD tkv (.inr c) = some (.str u)) (hQ : Q (.str u) S) : sp_TrueRun_hear K [.ref p, .str c] S Q E := by
  obtain ⟨f1, f2, f3, f4, f5, f6, f7, f8, f9, f10⟩ := F
  have e := h.ob
  have e2 := h.kp _ _ et
  refine spB_mk rfl ?_
  unfold b_TrueRun_hear
  walk_at "dm"
  exact hQ
theorem slot_word_ok (F : FTr K) (h : Rn K S0 p sa na pa sy wr tk nm df r B S) (hQ : Q (.str (r.slots s)) S) : sp_Run_slot_word K [.ref p, .str s] S Q E := by
  obtain ⟨f1, f2, f3, f4, f5, f6, f7, f8, f9, f10⟩ := F
  have e := h.ob
  obtain ⟨kvs, e2, hs, _⟩ := h.sl
  refine spB_mk rfl ?_
  unfold b_Run_slot_word
  walk_at "dm"
  rw [hs s]
  exact hQ
theorem noted_ok (F : FTr K) (h : Rn K S0 p sa na pa sy wr tk nm df r B S) (d : Rd S0 p sa na pa sy wr) (hB : B ≤ 800) (hQ : ∀ S', Rn K S0 p sa na pa sy wr tk nm df { r with notes := noteP r.notes c u } (B + 1) S' → Q .non S') : sp_TrueRun_noted K [.ref p, .str c, .str u] S Q E := by
  obtain ⟨f1, f2, f3, f4, f5, f6, f7, f8, f9, f10⟩ := F
  have e := h.ob
  have e2 := h.no
  have b := h.b1
  refine spB_mk rfl ?_
  unfold b_TrueRun_noted
  walk_at "dm"
  refine has_cell_ok e2 ?_
  walk_at "dm"
  with_reducible refine s_ifB (fun hn => ?_) (fun hn => ?_)
  · walk_at "dm"
    with_reducible refine s_kTp (szl (by simp)) ?_
    walk_at "dm"
    with_reducible refine s_app e2 (szlt (by simp; omega)) ?_
    walk_at "dm"
    have hc : c ∉ r.notes.map (·.1) := by simpa using hn
    have en : noteP r.notes c u = r.notes ++ [(c, u)] := if_neg hc
    refine hQ _ ?_
    have q := h.setN d (ns := noteP r.notes c u) (by rw [en]; simp; omega)
    rw [en, List.map_append] at q
    rw [en]
    exact q
  · walk_at "dm"
    have hc : c ∈ r.notes.map (·.1) := by simpa using hn
    have en : noteP r.notes c u = r.notes := if_pos hc
    refine hQ _ ?_
    rw [en]
    exact h.more (by omega)
theorem peeked_ok (F : FTr K) (h : Rn K S0 p sa na pa sy wr tk nm df r B S) (d : Rd S0 p sa na pa sy wr) (hB : B ≤ 800) (hQ : ∀ S', Rn K S0 p sa na pa sy wr tk nm df { r with peeks := noteP r.peeks c u } (B + 1) S' → Q .non S') : sp_TrueRun_peeked K [.ref p, .str c, .str u] S Q E := by
  obtain ⟨f1, f2, f3, f4, f5, f6, f7, f8, f9, f10⟩ := F
  have e := h.ob
  have e2 := h.pe
  have b := h.b2
  refine spB_mk rfl ?_
  unfold b_TrueRun_peeked
  walk_at "dm"
  refine has_cell_ok e2 ?_
  walk_at "dm"
  with_reducible refine s_ifB (fun hn => ?_) (fun hn => ?_)
  · walk_at "dm"
    with_reducible refine s_kTp (szl (by simp)) ?_
    walk_at "dm"
    with_reducible refine s_app e2 (szlt (by simp; omega)) ?_
    walk_at "dm"
    have hc : c ∉ r.peeks.map (·.1) := by simpa using hn
    have en : noteP r.peeks c u = r.peeks ++ [(c, u)] := if_neg hc
    refine hQ _ ?_
    have q := h.setP d (ns := noteP r.peeks c u) (by rw [en]; simp; omega)
    rw [en, List.map_append] at q
    rw [en]
    exact q
  · walk_at "dm"
    have hc : c ∈ r.peeks.map (·.1) := by simpa using hn
    have en : noteP r.peeks c u = r.peeks := if_pos hc
    refine hQ _ ?_
    rw [en]
    exact h.more (by omega)
theorem spoke_ok (F : FTr K) (h : Rn K S0 p sa na pa sy wr tk nm df r B S) (d : Rd S0 p sa na pa sy wr) (hB : B ≤ 800) (hQ : ∀ S', Rn K S0 p sa na pa sy wr tk nm df { r with says := r.says ++ [u] } (B + 1) S' → Q .non S') : sp_TrueRun_spoke K [.ref p, .str u] S Q E := by
  obtain ⟨f1, f2, f3, f4, f5, f6, f7, f8, f9, f10⟩ := F
  have e := h.ob
  have e2 := h.sa'
  have b := h.b3
  refine spB_mk rfl ?_
  unfold b_TrueRun_spoke
  walk_at "dm"
  with_reducible refine s_app e2 (szlt (by simp; omega)) ?_
  walk_at "dm"
  have q := h.setY d (ns := r.says ++ [u]) (by simp; omega)
  rw [List.map_append] at q
  exact hQ _ q
theorem wrote_ok (F : FTr K) (h : Rn K S0 p sa na pa sy wr tk nm df r B S) (d : Rd S0 p sa na pa sy wr) (hB : B ≤ 800) (hQ : ∀ S', Rn K S0 p sa na pa sy wr tk nm df { r with written := r.written ++ [(c, u)] } (B + 1) S' → Q .non S') : sp_TrueRun_wrote K [.ref p, .str c, .str u] S Q E := by
  obtain ⟨f1, f2, f3, f4, f5, f6, f7, f8, f9, f10⟩ := F
  have e := h.ob
  have e2 := h.wr'
  have b := h.b4
  refine spB_mk rfl ?_
  unfold b_TrueRun_wrote
  walk_at "dm"
  with_reducible refine s_kTp (szl (by simp)) ?_
  walk_at "dm"
  with_reducible refine s_app e2 (szlt (by simp; omega)) ?_
  walk_at "dm"
  have q := h.setW d (ns := r.written ++ [(c, u)]) (by simp; omega)
  rw [List.map_append] at q
  exact hQ _ q
end

set_option Elab.async false
set_option linter.all false
set_option maxRecDepth 100000
set_option maxHeartbeats 2000000
/-! P2n: the run's rows are done. -/
open PySem PySem.Spec PyProof.Rows L2 DL
theorem cnt_take {rs : List Row} {i : Nat} {x : Row} (h : rs[i]? = some x) : rowsCnt (rs.take (i + 1)) = rowsCnt (rs.take i) + (1 + x.ex) := by
  have l1 : (rs.take (i + 1)).length = (rs.take i).length + 1 := by
    have := (List.getElem?_eq_some_iff.mp h).1
    simp
    omega
  rw [cnt_eq, cnt_eq, exSum_take h, l1]
  omega
theorem cnt_app2 : ∀ xs ys : List Row, rowsCnt (xs ++ ys) = rowsCnt xs + rowsCnt ys
  | [], ys => by rw [List.nil_append, rowsCnt]; omega
  | x :: xs, ys => by rw [List.cons_append, rowsCnt, rowsCnt, cnt_app2 xs ys]; omega
theorem cnt_le {rs : List Row} {i : Nat} : rowsCnt (rs.take i) ≤ rowsCnt rs := by
  have : rs = rs.take i ++ rs.drop i := (List.take_append_drop i rs).symm
  conv => rhs; rw [this]
  rw [cnt_app2]
  omega
theorem did_ok {K : PySem.W.Frag} {S : Sto} {a b : D} {Q : DQ} {E : XQ} (hQ : Q .non S) : sp_Run_did K [a, b] S Q E := by
  refine spB_mk rfl ?_
  unfold b_Run_did
  walk_at "dm"
  exact hQ
section
variable {K : PySem.W.Frag} {S0 : Sto} {p sa na pa sy wr tk : Addr} {nm df : Str} {T : Str → Str} {h : Shp} {tkv : List (Key × D)}
theorem do_row_ok (F : FTr K) (d : Rd S0 p sa na pa sy wr) (et : S0 tk = some (.dic tkv)) (ht : ∀ c ∈ h.cells, valD tkv (.inr c) = some (.str (T c))) {x : Row} {r : RS} {B : Nat} {S : Sto} {Q : DQ} {E : XQ} (R : Rn K S0 p sa na pa sy wr tk nm df r B S) (hx : x.ok h) (hd : ∀ s w y n, x ≠ .ite s w y n) (hB : B ≤ 700)
    (hQ : ∀ S', Rn K S0 p sa na pa sy wr tk nm df (x.run T r) (B + 2) S' → Q .non S') : sp_Run_do_row K [.ref p, x.d] S Q E := by
  have F' := F
  obtain ⟨f1, f2, f3, f4, f5, f6, f7, f8, f9, f10⟩ := F
  have e := R.ob
  refine spB_mk rfl ?_
  unfold b_Run_do_row
  cases x with
  | read c s =>
    rw [Row.ok] at hx
    rw [Row.run] at hQ
    rw [Row.d]
    walk_at "dm"
    refine hear_ok F' R et (ht c hx.1) ?_
    walk_at "dm"
    refine noted_ok F' R d (by omega) fun S1 R1 => ?_
    have e1 := R1.ob
    obtain ⟨kvs, e2, hs, hl⟩ := R1.sl
    walk_at "dm"
    refine s_kgID e2 rfl (szlt (by omega)) ?_
    have pl := putD_len (kvs := kvs) (k := (.inr s : Key)) (v := .str (T c))
    exact hQ _ (R1.setS d hs.put (by omega))
  | peek c s =>
    rw [Row.ok] at hx
    rw [Row.run] at hQ
    rw [Row.d]
    walk_at "dm"
    refine hear_ok F' R et (ht c hx.2.1) ?_
    walk_at "dm"
    refine peeked_ok F' R d (by omega) fun S1 R1 => ?_
    have e1 := R1.ob
    obtain ⟨kvs, e2, hs, hl⟩ := R1.sl
    walk_at "dm"
    refine s_kgID e2 rfl (szlt (by omega)) ?_
    have pl := putD_len (kvs := kvs) (k := (.inr s : Key)) (v := .str (T c))
    exact hQ _ (R1.setS d hs.put (by omega))
  | put s w =>
    rw [Row.run] at hQ
    rw [Row.d]
    obtain ⟨kvs, e2, hs, hl⟩ := R.sl
    walk_at "dm"
    refine s_kgID e2 rfl (szlt (by omega)) ?_
    have pl := putD_len (kvs := kvs) (k := (.inr s : Key)) (v := .str w)
    exact hQ _ ((R.setS d hs.put (by omega)).more (by omega))
  | give s =>
    rw [Row.run] at hQ
    rw [Row.d]
    walk_at "dm"
    refine slot_word_ok F' R ?_
    walk_at "dm"
    with_reducible refine s_kSf2 e f4 (by simp) ?_
    walk_at "dm"
    with_reducible refine s_kSf2 put_same f5 (by refine Nat.lt_of_le_of_lt (?_ : _ ≤ 20) (by decide); repeat (first | refine pf_lt ?_ | (simp; done))) ?_
    rw [put_put]
    exact hQ _ ((R.setG d).more (by omega))
  | say s =>
    rw [Row.run] at hQ
    rw [Row.d]
    walk_at "dm"
    refine slot_word_ok F' R ?_
    walk_at "dm"
    refine spoke_ok F' R d (by omega) fun S1 R1 => ?_
    walk_at "dm"
    exact hQ _ (R1.more (by omega))
  | write c s =>
    rw [Row.run] at hQ
    rw [Row.d]
    walk_at "dm"
    refine slot_word_ok F' R ?_
    walk_at "dm"
    refine wrote_ok F' R d (by omega) fun S1 R1 => ?_
    walk_at "dm"
    exact hQ _ (R1.more (by omega))
  | ite s w y n => exact absurd rfl (hd s w y n)
theorem do_rows_ok (F : FTr K) (d : Rd S0 p sa na pa sy wr) (et : S0 tk = some (.dic tkv)) (ht : ∀ c ∈ h.cells, valD tkv (.inr c) = some (.str (T c))) : ∀ (n : Nat) (rs : List Row) {r : RS} {B : Nat} {S : Sto} {pth : List D} {Q : DQ} {E : XQ}, Rn K S0 p sa na pa sy wr tk nm df r B S → rowsOk h rs → rowsDep rs < n → B + 2 * rowsCnt rs ≤ 700 → pth.length + 3 * n ≤ 500 →
    (∀ S', Rn K S0 p sa na pa sy wr tk nm df (rowsRun T rs r) (B + 2 * rowsCnt rs) S' → Q .non S') → sp_Run_do_rows K n [.ref p, .tup (rowsD rs), .tup pth] S Q E
  | 0, rs, r, B, S, pth, Q, E, _, _, hn, _, _, _ => absurd hn (Nat.not_lt_zero _)
  | n + 1, rs, r, B, S, pth, Q, E, R, ok, hn, hB, hp, hQ => by
    have F' := F
    obtain ⟨f1, f2, f3, f4, f5, f6, f7, f8, f9, f10⟩ := F
    refine spB_mk rfl ?_
    unfold b_Run_do_rows
    walk_at "dm"
    refine for_ix (fun i env S' => ∃ x3 x4 x5 x6 : Option D, env = [some (.ref p), some (.tup (rowsD rs)), some (.tup pth), x3, x4, x5, x6] ∧ Rn K S0 p sa na pa sy wr tk nm df (rowsRun T (rs.take i) r) (B + 2 * rowsCnt (rs.take i)) S') _ 0 ⟨_, _, _, _, rfl, by rw [List.take_zero, rowsRun, rowsCnt]; exact R⟩ ?_ ?_
    · rintro i y _ S1 hy ⟨x3, x4, x5, x6, rfl, R1⟩ nx hnx
      rw [Nat.zero_add] at R1 hnx
      obtain ⟨x, hx, rfl⟩ := numD_at hy
      obtain ⟨w, hw, rfl⟩ := rowsD_at hx
      have hm := List.mem_of_getElem? hw
      have hrd := dep_mem hm
      have hok := rowsOk_all.mp ok w hm
      have c1 := cnt_take hw
      have c2 := cnt_le (rs := rs) (i := i + 1)
      have e := R1.ob
      refine ⟨trivial, ?_⟩
      walk_at "dm"
      with_reducible refine s_ifB (fun hg => ?_) (fun hg => ?_)
      · walk_at "dm"
        refine hQ _ ?_
        rw [run_stop hg]
        exact R1.more (by omega)
      have hg0 : (rowsRun T (rs.take i) r).given = none := by
        cases q : (rowsRun T (rs.take i) r).given with
        | none => rfl
        | some z => rw [q] at hg; cases hg
      have rt := run_take (T := T) hw hg0
      walk_at "dm"
      with_reducible refine s_kTp (szl (by simp)) ?_
      walk_at "dm"
      with_reducible refine s_addT (szl (by simp; omega)) ?_
      walk_at "dm"
      refine did_ok ?_
      cases w with
      | ite s v yy nn =>
        rw [Row.ok] at hok
        rw [Row.dep] at hrd
        rw [Row.ex] at c1
        rw [Row.run] at rt
        rw [Row.d]
        walk_at "dm"
        refine slot_word_ok F' R1 ?_
        walk_at "dm"
        with_reducible refine s_kIfEB (fun hs => ?_) (fun hs => ?_)
        · rw [if_pos (of_decide_eq_true hs)] at rt
          walk_at "dm"
          with_reducible refine s_kTp (szl (by simp)) ?_
          walk_at "dm"
          with_reducible refine s_addT (szl (by simp; omega)) ?_
          walk_at "dm"
          refine do_rows_ok F' d et ht n yy R1 hok.2.2.1 (by omega) (by omega) (by simp; omega) fun S2 R2 => ?_
          walk_at "dm"
          exact hnx _ _ ⟨_, _, _, _, rfl, by rw [rt]; exact R2.more (by omega)⟩
        · rw [if_neg (of_decide_eq_false hs)] at rt
          walk_at "dm"
          with_reducible refine s_kTp (szl (by simp)) ?_
          walk_at "dm"
          with_reducible refine s_addT (szl (by simp; omega)) ?_
          walk_at "dm"
          refine do_rows_ok F' d et ht n nn R1 hok.2.2.2 (by omega) (by omega) (by simp; omega) fun S2 R2 => ?_
          walk_at "dm"
          exact hnx _ _ ⟨_, _, _, _, rfl, by rw [rt]; exact R2.more (by omega)⟩
      | read c s =>
        have ed : (Row.read c s).d = .tup [.str "read", .str c, .str s] := by rw [Row.d]
        rw [ed]
        walk_at "dm"
        rw [← ed]
        refine do_row_ok F' d et ht R1 hok (fun _ _ _ _ z => by cases z) (by omega) fun S2 R2 => ?_
        walk_at "dm"
        exact hnx _ _ ⟨_, _, _, _, rfl, by rw [rt]; exact R2.more (by omega)⟩
      | peek c s =>
        have ed : (Row.peek c s).d = .tup [.str "peek", .str c, .str s] := by rw [Row.d]
        rw [ed]
        walk_at "dm"
        rw [← ed]
        refine do_row_ok F' d et ht R1 hok (fun _ _ _ _ z => by cases z) (by omega) fun S2 R2 => ?_
        walk_at "dm"
        exact hnx _ _ ⟨_, _, _, _, rfl, by rw [rt]; exact R2.more (by omega)⟩
      | put c s =>
        have ed : (Row.put c s).d = .tup [.str "put", .str c, .str s] := by rw [Row.d]
        rw [ed]
        walk_at "dm"
        rw [← ed]
        refine do_row_ok F' d et ht R1 hok (fun _ _ _ _ z => by cases z) (by omega) fun S2 R2 => ?_
        walk_at "dm"
        exact hnx _ _ ⟨_, _, _, _, rfl, by rw [rt]; exact R2.more (by omega)⟩
      | give s =>
        have ed : (Row.give s).d = .tup [.str "give", .str s] := by rw [Row.d]
        rw [ed]
        walk_at "dm"
        rw [← ed]
        refine do_row_ok F' d et ht R1 hok (fun _ _ _ _ z => by cases z) (by omega) fun S2 R2 => ?_
        walk_at "dm"
        exact hnx _ _ ⟨_, _, _, _, rfl, by rw [rt]; exact R2.more (by omega)⟩
      | say s =>
        have ed : (Row.say s).d = .tup [.str "say", .str s] := by rw [Row.d]
        rw [ed]
        walk_at "dm"
        rw [← ed]
        refine do_row_ok F' d et ht R1 hok (fun _ _ _ _ z => by cases z) (by omega) fun S2 R2 => ?_
        walk_at "dm"
        exact hnx _ _ ⟨_, _, _, _, rfl, by rw [rt]; exact R2.more (by omega)⟩
      | write c s =>
        have ed : (Row.write c s).d = .tup [.str "write", .str c, .str s] := by rw [Row.d]
        rw [ed]
        walk_at "dm"
        rw [← ed]
        refine do_row_ok F' d et ht R1 hok (fun _ _ _ _ z => by cases z) (by omega) fun S2 R2 => ?_
        walk_at "dm"
        exact hnx _ _ ⟨_, _, _, _, rfl, by rw [rt]; exact R2.more (by omega)⟩
    · rintro _ S1 ⟨x3, x4, x5, x6, rfl, R1⟩
      refine ⟨trivial, hQ _ ?_⟩
      rw [Nat.zero_add, numD_len, rowsD_len, List.take_length] at R1
      exact R1
theorem held_word_ok (F : FTr K) {r : RS} {B : Nat} {S : Sto} {Q : DQ} {E : XQ} (R : Rn K S0 p sa na pa sy wr tk nm df r B S) (hQ : Q (.str (r.given.getD df)) S) : sp_Run_held_word K [.ref p] S Q E := by
  obtain ⟨f1, f2, f3, f4, f5, f6, f7, f8, f9, f10⟩ := F
  have e := R.ob
  refine spB_mk rfl ?_
  unfold b_Run_held_word
  cases q : r.given with
  | none =>
    rw [q] at e hQ
    unfold givD at e
    walk_at "dm"
    exact hQ
  | some z =>
    rw [q] at e hQ
    unfold givD at e
    walk_at "dm"
    with_reducible refine s_isSN ?_
    walk_at "dm"
    exact hQ
end

set_option Elab.async false
set_option linter.all false
set_option maxRecDepth 100000
set_option maxHeartbeats 2000000
/-! P2o: a run is made; the table of true words. -/
open PySem PySem.Spec PyProof.Rows L2 DL
def r0 (df : Str) : RS := ⟨fun _ => df, [], [], [], [], none⟩
theorem run_init_ok {K : PySem.W.Frag} {S : Sto} {p : Addr} {nm df : D} {Q : DQ} {E : XQ} (F : FTr K) (e : S p = some (.ins (He.ga K "TrueRun") []))
    (hQ : ∀ sa S', S sa = none → S' p = some (.ins (He.ga K "TrueRun") [("name", nm), ("default", df), ("slots", .ref sa), ("given", .non), ("over", .bl false)]) → S' sa = some (.dic []) → Fr p S S' → Q .non S') : sp_RunU_initU K [.ref p, nm, df] S Q E := by
  obtain ⟨f1, f2, f3, f4, f5, f6, f7, f8, f9, f10⟩ := F
  refine spB_mk rfl ?_
  unfold b_RunU_initU
  walk_at "dm"
  with_reducible refine s_kSf2 e f1 (by simp) ?_
  walk_at "dm"
  with_reducible refine s_kSf2 put_same f2 (by refine Nat.lt_of_le_of_lt (?_ : _ ≤ 20) (by decide); repeat (first | refine pf_lt ?_ | (simp; done))) ?_
  rw [put_put]
  have g1 : Fr p S (DL.put S p (.ins (He.ga K "TrueRun") [("name", nm), ("default", df)])) := Fr.refl.put
  have g2 : DL.put S p (.ins (He.ga K "TrueRun") [("name", nm), ("default", df)]) p = some (.ins (He.ga K "TrueRun") [("name", nm), ("default", df)]) := put_same
  have g3 : ∀ b, DL.put S p (.ins (He.ga K "TrueRun") [("name", nm), ("default", df)]) b = none → b ≠ p ∧ S b = none := fun b hb => by
    have hbp : b ≠ p := fun z => by subst z; rw [put_same] at hb; cases hb
    rw [put_ne hbp] at hb
    exact ⟨hbp, hb⟩
  have eq1 : DL.put S p (.ins (He.ga K "TrueRun") (putFd "default" df (putFd "name" nm []))) = DL.put S p (.ins (He.ga K "TrueRun") [("name", nm), ("default", df)]) := rfl
  rw [eq1]
  generalize DL.put S p (.ins (He.ga K "TrueRun") [("name", nm), ("default", df)]) = S1 at g1 g2 g3 ⊢
  walk_at "dm"
  with_reducible refine s_dnew fun sa hsa => ?_
  obtain ⟨sp, sS⟩ := g3 sa hsa
  walk_at "dm"
  with_reducible refine s_kSf2 ((put_ne sp.symm).trans g2) f3 (by simp) ?_
  walk_at "dm"
  with_reducible refine s_kSf2 put_same f4 (by refine Nat.lt_of_le_of_lt (?_ : _ ≤ 20) (by decide); repeat (first | refine pf_lt ?_ | (simp; done))) ?_
  walk_at "dm"
  with_reducible refine s_kSf2 put_same f5 (by refine Nat.lt_of_le_of_lt (?_ : _ ≤ 20) (by decide); repeat (first | refine pf_lt ?_ | (simp; done))) ?_
  rw [put_put, put_put]
  exact hQ sa _ sS put_same ((put_ne sp).trans put_same) ((g1.new hsa).put)
theorem init_ok {K : PySem.W.Frag} {S0 : Sto} {p tk : Addr} {nm df : Str} {Q : DQ} {E : XQ} (F : FTr K) (hp : S0 p = none)
    (hQ : ∀ sa na pa sy wr S', Rd S0 p sa na pa sy wr → Rn K S0 p sa na pa sy wr tk nm df (r0 df) 0 S' → Q .non S') : sp_TrueRunU_initU K [.ref p, .str nm, .str df, .ref tk] (DL.put S0 p (.ins (He.ga K "TrueRun") [])) Q E := by
  have F' := F
  obtain ⟨f1, f2, f3, f4, f5, f6, f7, f8, f9, f10⟩ := F
  refine spB_mk rfl ?_
  unfold b_TrueRunU_initU
  walk_at "dm"
  refine s_sup (a := p) rfl put_same ?_
  walk_at "dm"
  refine run_init_ok F' put_same fun sa S1 hsa ep es fr => ?_
  have sap : sa ≠ p := fun z => by subst z; rw [put_same] at hsa; cases hsa
  rw [put_ne sap] at hsa
  have k1 : Kp S0 S1 := fun b o hb => fr b o (fun z => by subst z; rw [hp] at hb; cases hb) (by rw [put_ne (fun z => by subst z; rw [hp] at hb; cases hb)]; exact hb)
  clear fr
  walk_at "dm"
  with_reducible refine s_kSf2 ep f6 (by simp) ?_
  have a1 : DL.put S1 p (.ins (He.ga K "TrueRun") (putFd "told_words" (.ref tk) [("name", .str nm), ("default", .str df), ("slots", .ref sa), ("given", .non), ("over", .bl false)])) p = some (.ins (He.ga K "TrueRun") [("name", .str nm), ("default", .str df), ("slots", .ref sa), ("given", .non), ("over", .bl false), ("told_words", .ref tk)]) := put_same
  have a2 := k1.wr (o := .ins (He.ga K "TrueRun") (putFd "told_words" (.ref tk) [("name", .str nm), ("default", .str df), ("slots", .ref sa), ("given", .non), ("over", .bl false)])) hp
  have a3 := (put_ne (S := S1) (o := .ins (He.ga K "TrueRun") (putFd "told_words" (.ref tk) [("name", .str nm), ("default", .str df), ("slots", .ref sa), ("given", .non), ("over", .bl false)])) sap).trans es
  generalize DL.put S1 p (.ins (He.ga K "TrueRun") (putFd "told_words" (.ref tk) [("name", .str nm), ("default", .str df), ("slots", .ref sa), ("given", .non), ("over", .bl false)])) = S2 at a1 a2 a3 ⊢
  clear k1 ep es
  walk_at "dm"
  with_reducible refine s_kLs (szl (by simp)) fun na hna => ?_
  have nap : na ≠ p := fun z => by subst z; rw [a1] at hna; cases hna
  have nas : na ≠ sa := fun z => by subst z; rw [a3] at hna; cases hna
  have naS := a2.none_ hna
  have b1 := (put_ne (S := S2) (o := .lst []) nap.symm).trans a1
  have b2 := a2.new (o := .lst []) hna
  have b3 := (put_ne (S := S2) (o := .lst []) nas.symm).trans a3
  have b4 : DL.put S2 na (.lst []) na = some (.lst []) := put_same
  generalize DL.put S2 na (.lst []) = S3 at b1 b2 b3 b4 ⊢
  walk_at "dm"
  with_reducible refine s_kSf2 b1 f7 (by simp) ?_
  have c1 : DL.put S3 p (.ins (He.ga K "TrueRun") (putFd "notes" (.ref na) [("name", .str nm), ("default", .str df), ("slots", .ref sa), ("given", .non), ("over", .bl false), ("told_words", .ref tk)])) p = some (.ins (He.ga K "TrueRun") [("name", .str nm), ("default", .str df), ("slots", .ref sa), ("given", .non), ("over", .bl false), ("told_words", .ref tk), ("notes", .ref na)]) := put_same
  have c2 := b2.wr (o := .ins (He.ga K "TrueRun") (putFd "notes" (.ref na) [("name", .str nm), ("default", .str df), ("slots", .ref sa), ("given", .non), ("over", .bl false), ("told_words", .ref tk)])) hp
  have c3 := (put_ne (S := S3) (o := .ins (He.ga K "TrueRun") (putFd "notes" (.ref na) [("name", .str nm), ("default", .str df), ("slots", .ref sa), ("given", .non), ("over", .bl false), ("told_words", .ref tk)])) sap).trans b3
  have c4 := (put_ne (S := S3) (o := .ins (He.ga K "TrueRun") (putFd "notes" (.ref na) [("name", .str nm), ("default", .str df), ("slots", .ref sa), ("given", .non), ("over", .bl false), ("told_words", .ref tk)])) nap).trans b4
  generalize DL.put S3 p (.ins (He.ga K "TrueRun") (putFd "notes" (.ref na) [("name", .str nm), ("default", .str df), ("slots", .ref sa), ("given", .non), ("over", .bl false), ("told_words", .ref tk)])) = S4 at c1 c2 c3 c4 ⊢
  clear a1 a2 a3 b1 b2 b3 b4
  walk_at "dm"
  with_reducible refine s_kLs (szl (by simp)) fun pa hpa => ?_
  have pap : pa ≠ p := fun z => by subst z; rw [c1] at hpa; cases hpa
  have pas : pa ≠ sa := fun z => by subst z; rw [c3] at hpa; cases hpa
  have pan : pa ≠ na := fun z => by subst z; rw [c4] at hpa; cases hpa
  have paS := c2.none_ hpa
  have d1 := (put_ne (S := S4) (o := .lst []) pap.symm).trans c1
  have d2 := c2.new (o := .lst []) hpa
  have d3 := (put_ne (S := S4) (o := .lst []) pas.symm).trans c3
  have d4 := (put_ne (S := S4) (o := .lst []) pan.symm).trans c4
  have d5 : DL.put S4 pa (.lst []) pa = some (.lst []) := put_same
  generalize DL.put S4 pa (.lst []) = S5 at d1 d2 d3 d4 d5 ⊢
  walk_at "dm"
  with_reducible refine s_kSf2 d1 f8 (by simp) ?_
  have e1 : DL.put S5 p (.ins (He.ga K "TrueRun") (putFd "peeks" (.ref pa) [("name", .str nm), ("default", .str df), ("slots", .ref sa), ("given", .non), ("over", .bl false), ("told_words", .ref tk), ("notes", .ref na)])) p = some (.ins (He.ga K "TrueRun") [("name", .str nm), ("default", .str df), ("slots", .ref sa), ("given", .non), ("over", .bl false), ("told_words", .ref tk), ("notes", .ref na), ("peeks", .ref pa)]) := put_same
  have e2 := d2.wr (o := .ins (He.ga K "TrueRun") (putFd "peeks" (.ref pa) [("name", .str nm), ("default", .str df), ("slots", .ref sa), ("given", .non), ("over", .bl false), ("told_words", .ref tk), ("notes", .ref na)])) hp
  have e3 := (put_ne (S := S5) (o := .ins (He.ga K "TrueRun") (putFd "peeks" (.ref pa) [("name", .str nm), ("default", .str df), ("slots", .ref sa), ("given", .non), ("over", .bl false), ("told_words", .ref tk), ("notes", .ref na)])) sap).trans d3
  have e4 := (put_ne (S := S5) (o := .ins (He.ga K "TrueRun") (putFd "peeks" (.ref pa) [("name", .str nm), ("default", .str df), ("slots", .ref sa), ("given", .non), ("over", .bl false), ("told_words", .ref tk), ("notes", .ref na)])) nap).trans d4
  have e5 := (put_ne (S := S5) (o := .ins (He.ga K "TrueRun") (putFd "peeks" (.ref pa) [("name", .str nm), ("default", .str df), ("slots", .ref sa), ("given", .non), ("over", .bl false), ("told_words", .ref tk), ("notes", .ref na)])) pap).trans d5
  generalize DL.put S5 p (.ins (He.ga K "TrueRun") (putFd "peeks" (.ref pa) [("name", .str nm), ("default", .str df), ("slots", .ref sa), ("given", .non), ("over", .bl false), ("told_words", .ref tk), ("notes", .ref na)])) = S6 at e1 e2 e3 e4 e5 ⊢
  clear c1 c2 c3 c4 d1 d2 d3 d4 d5
  walk_at "dm"
  with_reducible refine s_kLs (szl (by simp)) fun sy hsy => ?_
  have syp : sy ≠ p := fun z => by subst z; rw [e1] at hsy; cases hsy
  have sys : sy ≠ sa := fun z => by subst z; rw [e3] at hsy; cases hsy
  have syn : sy ≠ na := fun z => by subst z; rw [e4] at hsy; cases hsy
  have syq : sy ≠ pa := fun z => by subst z; rw [e5] at hsy; cases hsy
  have syS := e2.none_ hsy
  have g1 := (put_ne (S := S6) (o := .lst []) syp.symm).trans e1
  have g2 := e2.new (o := .lst []) hsy
  have g3 := (put_ne (S := S6) (o := .lst []) sys.symm).trans e3
  have g4 := (put_ne (S := S6) (o := .lst []) syn.symm).trans e4
  have g5 := (put_ne (S := S6) (o := .lst []) syq.symm).trans e5
  have g6 : DL.put S6 sy (.lst []) sy = some (.lst []) := put_same
  generalize DL.put S6 sy (.lst []) = S7 at g1 g2 g3 g4 g5 g6 ⊢
  clear e1 e2 e3 e4 e5
  walk_at "dm"
  with_reducible refine s_kSf2 g1 f9 (by simp) ?_
  have i1 : DL.put S7 p (.ins (He.ga K "TrueRun") (putFd "says" (.ref sy) [("name", .str nm), ("default", .str df), ("slots", .ref sa), ("given", .non), ("over", .bl false), ("told_words", .ref tk), ("notes", .ref na), ("peeks", .ref pa)])) p = some (.ins (He.ga K "TrueRun") [("name", .str nm), ("default", .str df), ("slots", .ref sa), ("given", .non), ("over", .bl false), ("told_words", .ref tk), ("notes", .ref na), ("peeks", .ref pa), ("says", .ref sy)]) := put_same
  have i2 := g2.wr (o := .ins (He.ga K "TrueRun") (putFd "says" (.ref sy) [("name", .str nm), ("default", .str df), ("slots", .ref sa), ("given", .non), ("over", .bl false), ("told_words", .ref tk), ("notes", .ref na), ("peeks", .ref pa)])) hp
  have ii : ∀ b o, b ≠ p → S7 b = some o → DL.put S7 p (.ins (He.ga K "TrueRun") (putFd "says" (.ref sy) [("name", .str nm), ("default", .str df), ("slots", .ref sa), ("given", .non), ("over", .bl false), ("told_words", .ref tk), ("notes", .ref na), ("peeks", .ref pa)])) b = some o := fun b o h1 h2 => (put_ne h1).trans h2
  have i3 := ii _ _ sap g3
  have i4 := ii _ _ nap g4
  have i5 := ii _ _ pap g5
  have i6 := ii _ _ syp g6
  clear ii
  generalize DL.put S7 p (.ins (He.ga K "TrueRun") (putFd "says" (.ref sy) [("name", .str nm), ("default", .str df), ("slots", .ref sa), ("given", .non), ("over", .bl false), ("told_words", .ref tk), ("notes", .ref na), ("peeks", .ref pa)])) = S8 at i1 i2 i3 i4 i5 i6 ⊢
  clear g1 g2 g3 g4 g5 g6
  walk_at "dm"
  with_reducible refine s_kLs (szl (by simp)) fun wr hwr => ?_
  have wrp : wr ≠ p := fun z => by subst z; rw [i1] at hwr; cases hwr
  have wrs : wr ≠ sa := fun z => by subst z; rw [i3] at hwr; cases hwr
  have wrn : wr ≠ na := fun z => by subst z; rw [i4] at hwr; cases hwr
  have wrq : wr ≠ pa := fun z => by subst z; rw [i5] at hwr; cases hwr
  have wry : wr ≠ sy := fun z => by subst z; rw [i6] at hwr; cases hwr
  have wrS := i2.none_ hwr
  have j1 := (put_ne (S := S8) (o := .lst []) wrp.symm).trans i1
  have j2 := i2.new (o := .lst []) hwr
  have j3 := (put_ne (S := S8) (o := .lst []) wrs.symm).trans i3
  have j4 := (put_ne (S := S8) (o := .lst []) wrn.symm).trans i4
  have j5 := (put_ne (S := S8) (o := .lst []) wrq.symm).trans i5
  have j6 := (put_ne (S := S8) (o := .lst []) wry.symm).trans i6
  have j7 : DL.put S8 wr (.lst []) wr = some (.lst []) := put_same
  generalize DL.put S8 wr (.lst []) = S9 at j1 j2 j3 j4 j5 j6 j7 ⊢
  clear i1 i2 i3 i4 i5 i6
  walk_at "dm"
  with_reducible refine s_kSf2 j1 f10 (by simp) ?_
  exact hQ sa na pa sy wr _ ⟨hp, hsa, naS, paS, syS, wrS, sap.symm, nap.symm, pap.symm, syp.symm, wrp.symm, nas.symm, pas.symm, sys.symm, wrs.symm, pan.symm, syn.symm, wrn.symm, syq.symm, wrq.symm, wry.symm⟩
    ⟨put_same, ⟨[], (put_ne sap).trans j3, fun z => rfl, Nat.le_refl _⟩, (put_ne nap).trans j4, (put_ne pap).trans j5, (put_ne syp).trans j6, (put_ne wrp).trans j7, Nat.le_refl _, Nat.le_refl _, Nat.le_refl _, Nat.le_refl _, j2.wr hp⟩

set_option Elab.async false
set_option linter.all false
set_option maxRecDepth 100000
set_option maxHeartbeats 2000000
/-! P2p: the table of true words. -/
open PySem PySem.Spec PyProof.Rows L2 DL
/-- the true words, worked out -/
def srcT (df : Str) (zs : List (Str × Str)) : Str → Str := zs.foldl (fun f z => updF f z.1 z.2) fun _ => df
def derT (df : Str) (f : Str → Str) (ps : List (Str × List Row)) : Str → Str := ps.foldl (fun f p => updF f p.1 ((rowsRun f p.2 (r0 df)).given.getD df)) f
theorem srcT_take {df : Str} {zs : List (Str × Str)} {i : Nat} {z : Str × Str} (h : zs[i]? = some z) : srcT df (zs.take (i + 1)) = updF (srcT df (zs.take i)) z.1 z.2 := by
  unfold srcT
  rw [List.take_succ, h, List.foldl_append]
  rfl
theorem derT_take {df : Str} {f : Str → Str} {ps : List (Str × List Row)} {i : Nat} {p : Str × List Row} (h : ps[i]? = some p) : derT df f (ps.take (i + 1)) = updF (derT df f (ps.take i)) p.1 ((rowsRun (derT df f (ps.take i)) p.2 (r0 df)).given.getD df) := by
  unfold derT
  rw [List.take_succ, h, List.foldl_append]
  rfl
def Parts.df (x : Parts) : Str := x.words.headD ""
def Parts.tab (x : Parts) (us : List Str) : Str → Str := derT x.df (srcT x.df (x.sources.zip us)) x.derived
def Parts.cells (x : Parts) : List Str := x.sources ++ x.derived.map (·.1)
theorem df_at {x : Parts} (h : 2 ≤ x.words.length) : L2.atI (x.words.map D.str) 0 = some (.str x.df) := by
  refine atI_nat (p := 0) ?_
  unfold Parts.df
  cases e : x.words with
  | nil => rw [e] at h; simp at h
  | cons w ws => rfl
/-- a dict that tells f of the cells -/
def DicR (kvs : List (Key × D)) (f : Str → Str) (cs : List Str) : Prop := ∀ c ∈ cs, valD kvs (.inr c) = some (.str (f c))
theorem DicR.put {kvs : List (Key × D)} {f : Str → Str} {cs : List Str} {n u : Str} (h : DicR kvs f cs) : DicR (putD kvs (.inr n) (.str u)) (updF f n u) (cs ++ [n]) := fun c hc => by
  rw [valD_put]
  unfold updF
  by_cases q : c = n
  · subst q; simp
  · rw [if_neg (fun e => q (Sum.inr.inj e)), if_neg q]
    rcases List.mem_append.mp hc with z | z
    · exact h c z
    · exact absurd (List.mem_singleton.mp z) q
/-- a dict with no other keys -/
def DicO (kvs : List (Key × D)) (cs : List Str) : Prop := ∀ c, (valD kvs (.inr c)).isSome = true → c ∈ cs
theorem DicO.put {kvs : List (Key × D)} {cs : List Str} {n : Str} {v : D} (h : DicO kvs cs) : DicO (putD kvs (.inr n) v) (cs ++ [n]) := fun c hc => by
  rw [valD_put] at hc
  by_cases q : c = n
  · subst q; exact List.mem_append_right _ (List.mem_singleton.mpr rfl)
  · rw [if_neg (fun e => q (Sum.inr.inj e))] at hc
    exact List.mem_append_left _ (h c hc)
theorem DicR.sub {kvs : List (Key × D)} {f : Str → Str} {cs cs' : List Str} (h : DicR kvs f cs) (hs : ∀ c ∈ cs', c ∈ cs) : DicR kvs f cs' := fun c hc => h c (hs c hc)
theorem zip_at {ss us : List Str} {i : Nat} {y : D} (h : (List.zipWith (fun x y => D.tup [x, y]) (ss.map D.str) (us.map D.str))[i]? = some y) : ∃ z, (ss.zip us)[i]? = some z ∧ y = .tup [.str z.1, .str z.2] := by
  rw [List.getElem?_zipWith] at h
  rw [List.getElem?_map, List.getElem?_map] at h
  cases e1 : ss[i]? with
  | none => rw [e1] at h; simp at h
  | some s =>
    cases e2 : us[i]? with
    | none => rw [e1, e2] at h; simp at h
    | some u =>
      rw [e1, e2] at h
      refine ⟨(s, u), ?_, ?_⟩
      · rw [List.getElem?_zip_eq_some]
        exact ⟨e1, e2⟩
      · simpa using h.symm
/-- words for the sources -/
structure WdOk (x : Parts) (us : List Str) : Prop where
  len : us.length = x.sources.length
  mem : ∀ u ∈ us, u ∈ x.words
theorem start_ok {K : PySem.W.Frag} {S : Sto} {o : Addr} {x : Parts} {us : List Str} {Q : DQ} {E : XQ} (G : FPr K) (eo : S o = some (progO K x)) (W : WdOk x us) (hQ : Q (.bl true) S) : sp_are_start_words K [.ref o, .tup (us.map D.str)] S Q E := by
  obtain ⟨f1, f2, f3, f4⟩ := G
  unfold progO at eo
  obtain ⟨hl, hm⟩ := W
  refine spB_mk rfl ?_
  unfold b_are_start_words
  walk_at "dm"
  refine for_ix (fun i env S' => ∃ x2 : Option D, env = [some (.ref o), some (.tup (us.map D.str)), x2] ∧ S' = S) _ 0 ⟨_, rfl, rfl⟩ ?_ ?_
  · rintro i y _ S1 hy ⟨x2, rfl, rfl⟩ nx hnx
    rw [List.getElem?_map] at hy
    cases q : us[i]? with
    | none => rw [q] at hy; cases hy
    | some u =>
      rw [q] at hy
      obtain rfl : D.str u = y := Option.some.inj hy
      refine ⟨trivial, ?_⟩
      walk_at "dm"
      refine s_inT (p := .str u) rfl (rs_tupS x.words) ?_
      rw [any_eqv, decide_eq_true (hm u (List.mem_of_getElem? q))]
      walk_at "dm"
      exact hnx _ _ ⟨_, rfl, rfl⟩
  · rintro _ S1 ⟨x2, rfl, rfl⟩
    refine ⟨trivial, ?_⟩
    walk_at "dm"
    exact hQ
theorem table_ok {K : PySem.W.Frag} {S : Sto} {o : Addr} {x : Parts} {slots us : List Str} {pk wr : Bool} {Q : DQ} {E : XQ} (G : FPr K) (F : FTr K) (P : PartsOk x slots pk wr) (eo : S o = some (progO K x)) (W : WdOk x us)
    (hQ : ∀ tk tkv S', S tk = none → S' tk = some (.dic tkv) → DicR tkv (x.tab us) x.cells → DicO tkv x.cells → Kp S S' → Q (.ref tk) S') : sp_true_table K [.ref o, .tup (us.map D.str)] S Q E := by
  have G' := G
  obtain ⟨f1, f2, f3, f4⟩ := G
  have eo' := eo
  unfold progO at eo
  have hdf := df_at P.w2
  obtain ⟨hl, hm⟩ := W
  have s4 := P.s4
  have d6 := P.d6
  refine spB_mk rfl ?_
  unfold b_true_table
  walk_at "dm"
  refine start_ok G' eo' ⟨hl, hm⟩ ?_
  walk_at "dm"
  with_reducible refine s_dnew fun tk htk => ?_
  have k1 : Kp S (DL.put S tk (.dic [])) := Kp.refl.new htk
  have e1 : DL.put S tk (.dic []) tk = some (.dic []) := put_same
  have tko : o ≠ tk := fun z => by subst z; rw [eo] at htk; cases htk
  generalize DL.put S tk (.dic []) = S1 at k1 e1 ⊢
  have eo1 := k1 _ _ eo
  walk_at "dmn"
  with_reducible refine s_seq ?_
  walk_at "dmn"
  refine for_ix (fun i env S' => ∃ (x3 x4 : Option D) (kv : List (Key × D)), env = [some (.ref o), some (.tup (us.map D.str)), some (.ref tk), x3, x4, none, none, none] ∧ S' tk = some (.dic kv) ∧ kv.length ≤ i ∧ DicR kv (srcT x.df ((x.sources.zip us).take i)) (((x.sources.zip us).take i).map (·.1)) ∧ DicO kv (((x.sources.zip us).take i).map (·.1)) ∧ Kp S S') _ 0 ⟨_, _, _, rfl, e1, Nat.le_refl _, fun c hc => (by simp at hc), fun c hc => (by cases hc), k1⟩ ?_ ?_
  · rintro i y _ S2 hy ⟨x3, x4, kv, rfl, e2, l2, r2, o2, k2⟩ nx hnx
    rw [Nat.zero_add] at l2 r2 o2 hnx
    obtain ⟨z, hz, rfl⟩ := zip_at hy
    have hi : i < x.sources.length := by
      have := (List.getElem?_eq_some_iff.mp hz).1
      rw [List.length_zip] at this
      omega
    refine ⟨trivial, ?_⟩
    walk_at "dm"
    refine s_kgID e2 rfl (szlt (by omega)) ?_
    have pl := putD_len (kvs := kv) (k := (.inr z.1 : Key)) (v := .str z.2)
    have et := show ((x.sources.zip us).take (i + 1)).map (·.1) = ((x.sources.zip us).take i).map (·.1) ++ [z.1] by rw [List.take_succ, hz]; simp
    refine hnx _ _ ⟨_, _, _, rfl, put_same, by omega, ?_, ?_, k2.wr htk⟩
    · rw [srcT_take hz, et]
      exact r2.put
    · rw [et]
      exact o2.put
  rintro _ S2 ⟨x3, x4, kv, rfl, e2, l2, r2, o2, k2⟩
  have el : (List.zipWith (fun x y => D.tup [x, y]) (x.sources.map D.str) (us.map D.str)).length = (x.sources.zip us).length := by simp
  rw [Nat.zero_add, el, List.take_length] at r2 o2
  rw [List.map_fst_zip (by omega)] at r2 o2
  rw [Nat.zero_add, el, List.length_zip] at l2
  have eo2 := k2 _ _ eo
  refine ⟨trivial, ?_⟩
  walk_at "dmn"
  with_reducible refine s_seq ?_
  walk_at "dmn"
  refine for_ix (fun i env S' => ∃ (x5 x6 x7 : Option D) (kv : List (Key × D)), env = [some (.ref o), some (.tup (us.map D.str)), some (.ref tk), x3, x4, x5, x6, x7] ∧ S' tk = some (.dic kv) ∧ kv.length ≤ 4 + i ∧ DicR kv (derT x.df (srcT x.df (x.sources.zip us)) (x.derived.take i)) (x.sources ++ (x.derived.take i).map (·.1)) ∧ DicO kv (x.sources ++ (x.derived.take i).map (·.1)) ∧ Kp S S') _ 0 ⟨_, _, _, _, rfl, e2, by omega, by simpa [derT] using r2, by simpa using o2, k2⟩ ?_ ?_
  · rintro i y _ S3 hy ⟨x5, x6, x7, kv3, rfl, e3, l3, r3, o3, k3⟩ nx hnx
    rw [Nat.zero_add] at l3 r3 o3 hnx
    obtain ⟨y', hy', rfl⟩ := numD_at hy
    obtain ⟨p, hp, rfl⟩ := pair_at hy'
    have hi : i < x.derived.length := (List.getElem?_eq_some_iff.mp hp).1
    have eo3 := k3 _ _ eo
    refine ⟨trivial, ?_⟩
    walk_at "dm"
    intro q hq
    refine init_ok F hq fun sa na pa sy wr S4 d R => ⟨rfl, ?_⟩
    have bo := P.der i p hp
    have bc := bo.cnt
    have bd := bo.dep
    have e4 := R.ob
    walk_at "dm"
    with_reducible refine s_kTp (szl (by simp)) ?_
    walk_at "dm"
    refine do_rows_ok (h := ⟨true, false, false, x.words, x.sources, x.sources ++ (x.derived.take i).map (·.1), slots⟩) F d e3 (T := derT x.df (srcT x.df (x.sources.zip us)) (x.derived.take i)) r3 6 p.2 R bo.ok (by omega) (by omega) (by simp) fun S5 R5 => ?_
    have e5 := R5.ob
    have t5 := R5.kp _ _ e3
    walk_at "dm"
    refine held_word_ok F R5 ?_
    walk_at "dm"
    refine s_kgID t5 rfl (szlt (by omega)) ?_
    have pl := putD_len (kvs := kv3) (k := (.inr p.1 : Key)) (v := .str ((rowsRun (derT x.df (srcT x.df (x.sources.zip us)) (x.derived.take i)) p.2 (r0 x.df)).given.getD x.df))
    refine hnx _ _ ⟨_, _, _, _, rfl, put_same, by omega, ?_, ?_, (k3.trans R5.kp).wr htk⟩
    · rw [derT_take hp, take_names hp, ← List.append_assoc]
      exact r3.put
    · rw [take_names hp, ← List.append_assoc]
      exact o3.put
  rintro _ S3 ⟨x5, x6, x7, kv3, rfl, e3, l3, r3, o3, k3⟩
  rw [Nat.zero_add, numD_len, List.length_map, List.take_length] at r3 o3
  refine ⟨trivial, ?_⟩
  walk_at "dm"
  exact hQ tk kv3 S3 htk e3 r3 o3 k3

set_option Elab.async false
set_option linter.all false
set_option maxRecDepth 100000
set_option maxHeartbeats 2000000
/-! P2q: the law's own table of true words. -/
open PySem PySem.Spec PyProof.Rows L2 DL
/-- the law's record in the store -/
structure Lr (S0 : Sto) (sa rc na pa sy wr : Addr) (df : Str) (r : RS) (B : Nat) (S : Sto) : Prop where
  sl : ∃ kvs, S sa = some (.dic kvs) ∧ SlR kvs df r.slots ∧ kvs.length ≤ B
  rc_ : ∃ kvs, S rc = some (.dic kvs) ∧ valD kvs (.inr "read") = some (.ref na) ∧ valD kvs (.inr "peek") = some (.ref pa) ∧ valD kvs (.inr "say") = some (.ref sy) ∧ valD kvs (.inr "write") = some (.ref wr)
  no : S na = some (.lst (r.notes.map prD))
  pe : S pa = some (.lst (r.peeks.map prD))
  sy' : S sy = some (.lst (r.says.map D.str))
  wr' : S wr = some (.lst (r.written.map prD))
  b1 : r.notes.length ≤ B
  b2 : r.peeks.length ≤ B
  b3 : r.says.length ≤ B
  b4 : r.written.length ≤ B
  kp : Kp S0 S
section
variable {S0 S : Sto} {sa rc na pa sy wr : Addr} {df : Str} {r : RS} {B : Nat}
theorem Lr.more (h : Lr S0 sa rc na pa sy wr df r B S) {B' : Nat} (hB : B ≤ B') : Lr S0 sa rc na pa sy wr df r B' S := by
  obtain ⟨⟨k, a1, a2, a3⟩, b, c, d, e, g, b1, b2, b3, b4, kp⟩ := h
  exact ⟨⟨k, a1, a2, by omega⟩, b, c, d, e, g, by omega, by omega, by omega, by omega, kp⟩
theorem Lr.giv (h : Lr S0 sa rc na pa sy wr df r B S) {g : Option Str} : Lr S0 sa rc na pa sy wr df { r with given := g } B S := ⟨h.sl, h.rc_, h.no, h.pe, h.sy', h.wr', h.b1, h.b2, h.b3, h.b4, h.kp⟩
/-- something new beside -/
theorem Lr.new (h : Lr S0 sa rc na pa sy wr df r B S) {S' : Sto} (k : Kp S S') : Lr S0 sa rc na pa sy wr df r B S' := by
  obtain ⟨⟨kv, a1, a2, a3⟩, ⟨b, b1, b2⟩, c, d, e, g, x1, x2, x3, x4, kp⟩ := h
  exact ⟨⟨kv, k _ _ a1, a2, a3⟩, ⟨b, k _ _ b1, b2⟩, k _ _ c, k _ _ d, k _ _ e, k _ _ g, x1, x2, x3, x4, kp.trans k⟩
theorem Lr.setS (h : Lr S0 sa rc na pa sy wr df r B S) (d : Rd S0 rc sa na pa sy wr) {f' : Str → Str} {kvs : List (Key × D)} (hs : SlR kvs df f') (hl : kvs.length ≤ B + 1) : Lr S0 sa rc na pa sy wr df { r with slots := f' } (B + 1) (DL.put S sa (.dic kvs)) := by
  obtain ⟨_, ⟨b, b1, b2⟩, c1, d1, e1, g1, x1, x2, x3, x4, kp⟩ := h
  exact ⟨⟨kvs, put_same, hs, hl⟩, ⟨b, (put_ne d.psa).trans b1, b2⟩, (put_ne d.sna.symm).trans c1, (put_ne d.spa.symm).trans d1, (put_ne d.ssy.symm).trans e1, (put_ne d.swr.symm).trans g1, by show r.notes.length ≤ _; omega, by show r.peeks.length ≤ _; omega, by show r.says.length ≤ _; omega, by show r.written.length ≤ _; omega, kp.wr d.sa_⟩
theorem Lr.setN (h : Lr S0 sa rc na pa sy wr df r B S) (d : Rd S0 rc sa na pa sy wr) {ps : List (Str × Str)} (hl : ps.length ≤ B + 1) : Lr S0 sa rc na pa sy wr df { r with notes := ps } (B + 1) (DL.put S na (.lst (ps.map prD))) := by
  obtain ⟨⟨kv, a1, a2, a3⟩, ⟨b, b1, b2⟩, _, d1, e1, g1, x1, x2, x3, x4, kp⟩ := h
  exact ⟨⟨kv, (put_ne d.sna).trans a1, a2, by omega⟩, ⟨b, (put_ne d.pna).trans b1, b2⟩, put_same, (put_ne d.npa.symm).trans d1, (put_ne d.nsy.symm).trans e1, (put_ne d.nwr.symm).trans g1, hl, by show r.peeks.length ≤ _; omega, by show r.says.length ≤ _; omega, by show r.written.length ≤ _; omega, kp.wr d.na_⟩
theorem Lr.setP (h : Lr S0 sa rc na pa sy wr df r B S) (d : Rd S0 rc sa na pa sy wr) {ps : List (Str × Str)} (hl : ps.length ≤ B + 1) : Lr S0 sa rc na pa sy wr df { r with peeks := ps } (B + 1) (DL.put S pa (.lst (ps.map prD))) := by
  obtain ⟨⟨kv, a1, a2, a3⟩, ⟨b, b1, b2⟩, c1, _, e1, g1, x1, x2, x3, x4, kp⟩ := h
  exact ⟨⟨kv, (put_ne d.spa).trans a1, a2, by omega⟩, ⟨b, (put_ne d.ppa).trans b1, b2⟩, (put_ne d.npa).trans c1, put_same, (put_ne d.qsy.symm).trans e1, (put_ne d.qwr.symm).trans g1, by show r.notes.length ≤ _; omega, hl, by show r.says.length ≤ _; omega, by show r.written.length ≤ _; omega, kp.wr d.pa_⟩
theorem Lr.setY (h : Lr S0 sa rc na pa sy wr df r B S) (d : Rd S0 rc sa na pa sy wr) {xs : List Str} (hl : xs.length ≤ B + 1) : Lr S0 sa rc na pa sy wr df { r with says := xs } (B + 1) (DL.put S sy (.lst (xs.map D.str))) := by
  obtain ⟨⟨kv, a1, a2, a3⟩, ⟨b, b1, b2⟩, c1, d1, _, g1, x1, x2, x3, x4, kp⟩ := h
  exact ⟨⟨kv, (put_ne d.ssy).trans a1, a2, by omega⟩, ⟨b, (put_ne d.psy).trans b1, b2⟩, (put_ne d.nsy).trans c1, (put_ne d.qsy).trans d1, put_same, (put_ne d.ywr.symm).trans g1, by show r.notes.length ≤ _; omega, by show r.peeks.length ≤ _; omega, hl, by show r.written.length ≤ _; omega, kp.wr d.sy_⟩
theorem Lr.setW (h : Lr S0 sa rc na pa sy wr df r B S) (d : Rd S0 rc sa na pa sy wr) {xs : List (Str × Str)} (hl : xs.length ≤ B + 1) : Lr S0 sa rc na pa sy wr df { r with written := xs } (B + 1) (DL.put S wr (.lst (xs.map prD))) := by
  obtain ⟨⟨kv, a1, a2, a3⟩, ⟨b, b1, b2⟩, c1, d1, e1, _, x1, x2, x3, x4, kp⟩ := h
  exact ⟨⟨kv, (put_ne d.swr).trans a1, a2, by omega⟩, ⟨b, (put_ne d.pwr).trans b1, b2⟩, (put_ne d.nwr).trans c1, (put_ne d.qwr).trans d1, (put_ne d.ywr).trans e1, put_same, by show r.notes.length ≤ _; omega, by show r.peeks.length ≤ _; omega, by show r.says.length ≤ _; omega, hl, kp.wr d.wr_⟩
end
theorem rs_lstP {S : Sto} {a : Addr} {zs : List Str} (h : S a = some (.lst (zs.map D.str))) : rs S 40 (.ref a) = some (.list (zs.map PyData.str)) := rs_lstS h
theorem true_rows_ok {K : PySem.W.Frag} {S0 : Sto} {sa rc na pa sy wr tk : Addr} {df : Str} {T : Str → Str} {h : Shp} {tkv : List (Key × D)} (d : Rd S0 rc sa na pa sy wr) (et : S0 tk = some (.dic tkv)) (ht : ∀ c ∈ h.cells, valD tkv (.inr c) = some (.str (T c))) :
    ∀ (n : Nat) (rs : List Row) {r : RS} {B : Nat} {S : Sto} {Q : DQ} {E : XQ}, r.given = none → Lr S0 sa rc na pa sy wr df r B S → rowsOk h rs → rowsDep rs < n → B + 2 * rowsCnt rs ≤ 700 →
    (∀ S', Lr S0 sa rc na pa sy wr df (rowsRun T rs r) (B + 2 * rowsCnt rs) S' → Q (givD (rowsRun T rs r).given) S') → sp__law_true_rows K n [.tup (rowsD rs), .ref sa, .ref tk, .str df, .ref rc] S Q E
  | 0, rs, r, B, S, Q, E, _, _, _, hn, _, _ => absurd hn (Nat.not_lt_zero _)
  | n + 1, rs, r, B, S, Q, E, hg, R, ok, hn, hB, hQ => by
    refine spB_mk rfl ?_
    unfold b__law_true_rows
    walk_at "dm"
    refine for_ix (fun i env S' => ∃ x5 x6 x7 x8 x9 : Option D, env = [some (.tup (rowsD rs)), some (.ref sa), some (.ref tk), some (.str df), some (.ref rc), x5, x6, x7, x8, x9] ∧ (rowsRun T (rs.take i) r).given = none ∧ Lr S0 sa rc na pa sy wr df (rowsRun T (rs.take i) r) (B + 2 * rowsCnt (rs.take i)) S') _ 0 ⟨_, _, _, _, _, rfl, by rw [List.take_zero, rowsRun]; exact hg, by rw [List.take_zero, rowsRun, rowsCnt]; exact R⟩ ?_ ?_
    · rintro i y _ S1 hy ⟨x5, x6, x7, x8, x9, rfl, hg1, R1⟩ nx hnx
      rw [Nat.zero_add] at R1 hg1 hnx
      obtain ⟨w, hw, rfl⟩ := rowsD_at hy
      have hm := List.mem_of_getElem? hw
      have hrd := dep_mem hm
      have hok := rowsOk_all.mp ok w hm
      have c1 := cnt_take hw
      have c2 := cnt_le (rs := rs) (i := i + 1)
      have rt := run_take (T := T) hw hg1
      have rs1 := run_stop1 (T := T) hw hg1
      generalize rowsRun T (rs.take i) r = ri at R1 hg1 rt rs1
      have t1 := R1.kp _ _ et
      obtain ⟨kvs, s1, s2, s3⟩ := R1.sl
      obtain ⟨rkv, q1, q2, q3, q4, q5⟩ := R1.rc_
      refine ⟨trivial, ?_⟩
      cases w with
      | read c s =>
        rw [Row.ok] at hok
        rw [Row.run] at rt
        rw [Row.d]
        have tc := ht c hok.1
        have n1 := R1.no
        have n2 := R1.b1
        generalize eps : ri.notes = ps at n1 n2
        walk_at "dmn"
        with_reducible refine s_seq ?_
        walk_at "dmn"
        with_reducible refine s_cut (fun env S3 => env = [some (.tup (rowsD rs)), some (.ref sa), some (.ref tk), some (.str df), some (.ref rc), some (.tup [.str "read", .str c, .str s]), some (.ref na), x7, x8, x9] ∧ Lr S0 sa rc na pa sy wr df { ri with notes := noteP ps c (T c) } (B + 2 * rowsCnt (rs.take i) + 1) S3) ?_ ?_
        · rintro _ S3 ⟨rfl, R3⟩
          have t3 := R3.kp _ _ et
          obtain ⟨kvs3, v1, v2, v3⟩ := R3.sl
          walk_at "dm"
          refine s_kgID v1 rfl (szlt (by omega)) ?_
          have pl := putD_len (kvs := kvs3) (k := (.inr s : Key)) (v := .str (T c))
          refine hnx _ _ ⟨_, _, _, _, _, rfl, by rw [rt]; exact hg1, ?_⟩
          rw [rt, eps]
          exact (R3.setS d v2.put (by omega)).more (by omega)
        · intro nx3 hnx3
          walk_at "dm"
          intro l hl
          have kl : Kp S1 (DL.put S1 l (.lst [])) := Kp.refl.new hl
          refine lc_ixY (fun j ys S' => ys = ((ps.take j).map (·.1)).map D.str ∧ Kp S1 S') _ put_same ⟨rfl, kl⟩ ?_ ?_
          · rintro j z S2 ys hz e2 ⟨rfl, k2⟩ nx2 hnx2
            rw [List.getElem?_map] at hz
            cases q : ps[j]? with
            | none => rw [q] at hz; cases hz
            | some pr =>
              rw [q] at hz
              obtain rfl : prD pr = z := Option.some.inj hz
              have hj : j < ps.length := (List.getElem?_eq_some_iff.mp q).1
              refine ⟨k2 _ _ n1, ?_⟩
              unfold prD
              walk_at "dm"
              refine s_kApp e2 (szlt (by simp; omega)) ?_
              refine hnx2 _ _ put_same ⟨?_, k2.wr hl⟩
              rw [List.take_succ, q]
              simp
          rintro S2 ys e2 ⟨rfl, k2⟩
          rw [List.length_map, List.take_length] at e2
          have R2 := R1.new k2
          have n3 := k2 _ _ n1
          have t2 := k2 _ _ t1
          refine ⟨n3, ?_⟩
          walk_at "dm"
          refine s_inL (p := .str c) e2 rfl (rs_lstS e2) ?_
          rw [any_eqv]
          walk_at "dm"
          with_reducible refine s_ifB (fun hb => ?_) (fun hb => ?_)
          · have hc : c ∉ ps.map (·.1) := by simpa using hb
            have en : noteP ps c (T c) = ps ++ [(c, T c)] := if_neg hc
            rw [en] at hnx3
            walk_at "dm"
            with_reducible refine s_kTp (szl (by simp)) ?_
            walk_at "dm"
            with_reducible refine s_app n3 (szlt (by simp; omega)) ?_
            walk_at "dm"
            refine hnx3 _ _ ⟨rfl, ?_⟩
            have := R2.setN d (ps := ps ++ [(c, T c)]) (by simp; omega)
            rw [List.map_append] at this
            exact this
          · have hc : c ∈ ps.map (·.1) := by simpa using hb
            have en : noteP ps c (T c) = ps := if_pos hc
            rw [en, ← eps] at hnx3
            walk_at "dm"
            exact hnx3 _ _ ⟨rfl, R2.more (by omega)⟩
      | peek c s =>
        rw [Row.ok] at hok
        rw [Row.run] at rt
        rw [Row.d]
        have tc := ht c hok.2.1
        have n1 := R1.pe
        have n2 := R1.b2
        generalize eps : ri.peeks = ps at n1 n2
        walk_at "dmn"
        with_reducible refine s_seq ?_
        walk_at "dmn"
        with_reducible refine s_cut (fun env S3 => env = [some (.tup (rowsD rs)), some (.ref sa), some (.ref tk), some (.str df), some (.ref rc), some (.tup [.str "peek", .str c, .str s]), some (.ref pa), x7, x8, x9] ∧ Lr S0 sa rc na pa sy wr df { ri with peeks := noteP ps c (T c) } (B + 2 * rowsCnt (rs.take i) + 1) S3) ?_ ?_
        · rintro _ S3 ⟨rfl, R3⟩
          have t3 := R3.kp _ _ et
          obtain ⟨kvs3, v1, v2, v3⟩ := R3.sl
          walk_at "dm"
          refine s_kgID v1 rfl (szlt (by omega)) ?_
          have pl := putD_len (kvs := kvs3) (k := (.inr s : Key)) (v := .str (T c))
          refine hnx _ _ ⟨_, _, _, _, _, rfl, by rw [rt]; exact hg1, ?_⟩
          rw [rt, eps]
          exact (R3.setS d v2.put (by omega)).more (by omega)
        · intro nx3 hnx3
          walk_at "dm"
          intro l hl
          have kl : Kp S1 (DL.put S1 l (.lst [])) := Kp.refl.new hl
          refine lc_ixY (fun j ys S' => ys = ((ps.take j).map (·.1)).map D.str ∧ Kp S1 S') _ put_same ⟨rfl, kl⟩ ?_ ?_
          · rintro j z S2 ys hz e2 ⟨rfl, k2⟩ nx2 hnx2
            rw [List.getElem?_map] at hz
            cases q : ps[j]? with
            | none => rw [q] at hz; cases hz
            | some pr =>
              rw [q] at hz
              obtain rfl : prD pr = z := Option.some.inj hz
              have hj : j < ps.length := (List.getElem?_eq_some_iff.mp q).1
              refine ⟨k2 _ _ n1, ?_⟩
              unfold prD
              walk_at "dm"
              refine s_kApp e2 (szlt (by simp; omega)) ?_
              refine hnx2 _ _ put_same ⟨?_, k2.wr hl⟩
              rw [List.take_succ, q]
              simp
          rintro S2 ys e2 ⟨rfl, k2⟩
          rw [List.length_map, List.take_length] at e2
          have R2 := R1.new k2
          have n3 := k2 _ _ n1
          have t2 := k2 _ _ t1
          refine ⟨n3, ?_⟩
          walk_at "dm"
          refine s_inL (p := .str c) e2 rfl (rs_lstS e2) ?_
          rw [any_eqv]
          walk_at "dm"
          with_reducible refine s_ifB (fun hb => ?_) (fun hb => ?_)
          · have hc : c ∉ ps.map (·.1) := by simpa using hb
            have en : noteP ps c (T c) = ps ++ [(c, T c)] := if_neg hc
            rw [en] at hnx3
            walk_at "dm"
            with_reducible refine s_kTp (szl (by simp)) ?_
            walk_at "dm"
            with_reducible refine s_app n3 (szlt (by simp; omega)) ?_
            walk_at "dm"
            refine hnx3 _ _ ⟨rfl, ?_⟩
            have := R2.setP d (ps := ps ++ [(c, T c)]) (by simp; omega)
            rw [List.map_append] at this
            exact this
          · have hc : c ∈ ps.map (·.1) := by simpa using hb
            have en : noteP ps c (T c) = ps := if_pos hc
            rw [en, ← eps] at hnx3
            walk_at "dm"
            exact hnx3 _ _ ⟨rfl, R2.more (by omega)⟩
      | put s v =>
        rw [Row.run] at rt
        rw [Row.d]
        walk_at "dm"
        refine s_kgID s1 rfl (szlt (by omega)) ?_
        have pl := putD_len (kvs := kvs) (k := (.inr s : Key)) (v := .str v)
        refine hnx _ _ ⟨_, _, _, _, _, rfl, by rw [rt]; exact hg1, ?_⟩
        rw [rt]
        exact (R1.setS d s2.put (by omega)).more (by omega)
      | give s =>
        have hr := rs1 (by rw [Row.run]; rfl)
        rw [hr, Row.run] at hQ
        rw [Row.d]
        walk_at "dm"
        rw [s2 s]
        exact hQ _ (R1.giv.more (by omega))
      | say s =>
        rw [Row.run] at rt
        rw [Row.d]
        have y1 := R1.sy'
        have y2 := R1.b3
        walk_at "dm"
        with_reducible refine s_app y1 (szlt (by simp; omega)) ?_
        walk_at "dm"
        refine hnx _ _ ⟨_, _, _, _, _, rfl, by rw [rt]; exact hg1, ?_⟩
        rw [rt]
        have q := R1.setY d (xs := ri.says ++ [ri.slots s]) (by simp; omega)
        rw [List.map_append] at q
        rw [s2 s]
        exact q.more (by omega)
      | write c s =>
        rw [Row.run] at rt
        rw [Row.d]
        have y1 := R1.wr'
        have y2 := R1.b4
        walk_at "dm"
        with_reducible refine s_kTp (szl (by simp)) ?_
        walk_at "dm"
        with_reducible refine s_app y1 (szlt (by simp; omega)) ?_
        walk_at "dm"
        refine hnx _ _ ⟨_, _, _, _, _, rfl, by rw [rt]; exact hg1, ?_⟩
        rw [rt]
        have q := R1.setW d (xs := ri.written ++ [(c, ri.slots s)]) (by simp; omega)
        rw [List.map_append] at q
        rw [s2 s]
        exact q.more (by omega)
      | ite s v yy nn =>
        rw [Row.ok] at hok
        rw [Row.dep] at hrd
        rw [Row.ex] at c1
        rw [Row.run] at rt rs1
        rw [Row.d]
        walk_at "dm"
        rw [s2 s]
        walk_at "dm"
        with_reducible refine s_kIfEB (fun hs => ?_) (fun hs => ?_)
        · rw [if_pos (of_decide_eq_true hs)] at rt rs1
          walk_at "dm"
          refine true_rows_ok d et ht n yy hg1 R1 hok.2.2.1 (by omega) (by omega) fun S2 R2 => ?_
          cases q : (rowsRun T yy ri).given with
          | none =>
            unfold givD
            walk_at "dm"
            exact hnx _ _ ⟨_, _, _, _, _, rfl, by rw [rt]; exact q, by rw [rt]; exact R2.more (by omega)⟩
          | some z =>
            rw [rs1 (by rw [q]; rfl), q] at hQ
            unfold givD
            walk_at "dm"
            with_reducible refine s_isSN ?_
            walk_at "dm"
            exact hQ _ (R2.more (by omega))
        · rw [if_neg (of_decide_eq_false hs)] at rt rs1
          walk_at "dm"
          refine true_rows_ok d et ht n nn hg1 R1 hok.2.2.2 (by omega) (by omega) fun S2 R2 => ?_
          cases q : (rowsRun T nn ri).given with
          | none =>
            unfold givD
            walk_at "dm"
            exact hnx _ _ ⟨_, _, _, _, _, rfl, by rw [rt]; exact q, by rw [rt]; exact R2.more (by omega)⟩
          | some z =>
            rw [rs1 (by rw [q]; rfl), q] at hQ
            unfold givD
            walk_at "dm"
            with_reducible refine s_isSN ?_
            walk_at "dm"
            exact hQ _ (R2.more (by omega))
    · rintro _ S1 ⟨x5, x6, x7, x8, x9, rfl, hg1, R1⟩
      refine ⟨trivial, ?_⟩
      walk_at "dm"
      rw [Nat.zero_add, rowsD_len, List.take_length] at R1 hg1
      have := hQ _ R1
      rw [hg1] at this
      exact this

set_option Elab.async false
set_option linter.all false
set_option maxRecDepth 100000
set_option maxHeartbeats 2000000
/-! P2r: the law's table; a body, its path; a true run. -/
open PySem PySem.Spec PyProof.Rows L2 DL
theorem law_true_ok {K : PySem.W.Frag} {S : Sto} {x : Parts} {slots us : List Str} {pk wr : Bool} {wd : D} {Q : DQ} {E : XQ} (P : PartsOk x slots pk wr) (W : WdOk x us)
    (hw : ∀ S', Kp S S' → ∀ (i : Nat) u, us[i]? = some u → ∀ Q : DQ, Q (.str u) S' → vIx wd (.int i) S' Q)
    (hQ : ∀ tk tkv S', S tk = none → S' tk = some (.dic tkv) → DicR tkv (x.tab us) x.cells → Kp S S' → Q (.ref tk) S') : sp__law_true K [x.d, wd] S Q E := by
  have hdf := df_at P.w2
  obtain ⟨hl, hm⟩ := W
  have s4 := P.s4
  have d6 := P.d6
  have ed : x.d = .tup [.tup (x.words.map D.str), .tp true (x.sources.map D.str), .tup (x.derived.map pairD), .tup (x.effects.map pairD)] := rfl
  rw [ed]
  refine spB_mk rfl ?_
  unfold b__law_true
  walk_at "dm"
  with_reducible refine s_dnew fun tk htk => ?_
  have k1 : Kp S (DL.put S tk (.dic [])) := Kp.refl.new htk
  have e1 : DL.put S tk (.dic []) tk = some (.dic []) := put_same
  generalize DL.put S tk (.dic []) = S1 at k1 e1 ⊢
  walk_at "dmn"
  with_reducible refine s_seq ?_
  walk_at "dmn"
  refine s_kR1 (by omega) (by simp; omega) ?_
  walk_at "dmn"
  rw [show (((x.sources.map D.str).length : Nat) : Int).toNat = x.sources.length by simp]
  refine for_ix (fun i env S' => ∃ (x3 : Option D) (kv : List (Key × D)), env = [some (.tup [.tup (x.words.map D.str), .tp true (x.sources.map D.str), .tup (x.derived.map pairD), .tup (x.effects.map pairD)]), some wd, some (.ref tk), x3, none, none, none] ∧ S' tk = some (.dic kv) ∧ kv.length ≤ i ∧ DicR kv (srcT x.df ((x.sources.zip us).take i)) (((x.sources.zip us).take i).map (·.1)) ∧ Kp S S') _ 0 ⟨_, _, rfl, e1, Nat.le_refl _, fun c hc => by simp at hc, k1⟩ ?_ ?_
  · rintro i y _ S2 hy ⟨x3, kv, rfl, e2, l2, r2, k2⟩ nx hnx
    rw [Nat.zero_add] at l2 r2 hnx
    obtain ⟨rfl, hi⟩ := rng_at hy
    have hs : x.sources[i]? = some x.sources[i] := List.getElem?_eq_getElem hi
    have hu : us[i]? = some (us[i]'(by omega)) := List.getElem?_eq_getElem (by omega)
    have hz : (x.sources.zip us)[i]? = some (x.sources[i], us[i]'(by omega)) := by
      rw [List.getElem?_zip_eq_some]
      exact ⟨hs, hu⟩
    have hat : L2.atI (x.sources.map D.str) (i : Int) = some (.str x.sources[i]) := atI_nat (by rw [List.getElem?_map, hs]; rfl)
    refine ⟨trivial, ?_⟩
    walk_at "dm"
    refine hw S2 k2 i _ hu _ ?_
    walk_at "dm"
    refine s_kgID e2 rfl (szlt (by omega)) ?_
    have pl := putD_len (kvs := kv) (k := (.inr x.sources[i] : Key)) (v := .str (us[i]'(by omega)))
    refine hnx _ _ ⟨_, _, rfl, put_same, by omega, ?_, k2.wr htk⟩
    rw [srcT_take hz, show ((x.sources.zip us).take (i + 1)).map (·.1) = ((x.sources.zip us).take i).map (·.1) ++ [x.sources[i]] by rw [List.take_succ, hz]; simp]
    exact r2.put
  rintro _ S2 ⟨x3, kv, rfl, e2, l2, r2, k2⟩
  rw [Nat.zero_add, rng_len] at r2 l2
  rw [List.take_of_length_le (by rw [List.length_zip]; omega)] at r2
  rw [List.map_fst_zip (by omega)] at r2
  refine ⟨trivial, ?_⟩
  walk_at "dmn"
  with_reducible refine s_seq ?_
  walk_at "dmn"
  refine for_ix (fun i env S' => ∃ (x4 x5 x6 : Option D) (kv : List (Key × D)), env = [some (.tup [.tup (x.words.map D.str), .tp true (x.sources.map D.str), .tup (x.derived.map pairD), .tup (x.effects.map pairD)]), some wd, some (.ref tk), x3, x4, x5, x6] ∧ S' tk = some (.dic kv) ∧ kv.length ≤ 4 + i ∧ DicR kv (derT x.df (srcT x.df (x.sources.zip us)) (x.derived.take i)) (x.sources ++ (x.derived.take i).map (·.1)) ∧ Kp S S') _ 0 ⟨_, _, _, _, rfl, e2, by omega, by simpa [derT] using r2, k2⟩ ?_ ?_
  · rintro i y _ S3 hy ⟨x4, x5, x6, kv3, rfl, e3, l3, r3, k3⟩ nx hnx
    rw [Nat.zero_add] at l3 r3 hnx
    obtain ⟨p, hp, rfl⟩ := pair_at hy
    have hi : i < x.derived.length := (List.getElem?_eq_some_iff.mp hp).1
    have bo := P.der i p hp
    have bc := bo.cnt
    have bd := bo.dep
    refine ⟨trivial, ?_⟩
    walk_at "dm"
    refine s_disp fun rc hrc => ?_
    have k4 : Kp S3 (DL.put S3 rc (.dic [])) := Kp.refl.new hrc
    have e4 : DL.put S3 rc (.dic []) rc = some (.dic []) := put_same
    generalize DL.put S3 rc (.dic []) = S4 at k4 e4 ⊢
    walk_at "dm"
    with_reducible refine s_kLs (szl (by simp)) fun na hna => ?_
    have nar : na ≠ rc := fun z => by subst z; rw [e4] at hna; cases hna
    have naS := k4.none_ hna
    have k5 := k4.new (o := .lst []) hna
    have a5 := (put_ne (S := S4) (o := .lst []) nar.symm).trans e4
    have b5 : DL.put S4 na (.lst []) na = some (.lst []) := put_same
    generalize DL.put S4 na (.lst []) = S5 at k5 a5 b5 ⊢
    walk_at "dm"
    with_reducible refine s_kLs (szl (by simp)) fun pa hpa => ?_
    have par : pa ≠ rc := fun z => by subst z; rw [a5] at hpa; cases hpa
    have pan : pa ≠ na := fun z => by subst z; rw [b5] at hpa; cases hpa
    have paS := k5.none_ hpa
    have k6 := k5.new (o := .lst []) hpa
    have a6 := (put_ne (S := S5) (o := .lst []) par.symm).trans a5
    have b6 := (put_ne (S := S5) (o := .lst []) pan.symm).trans b5
    have c6 : DL.put S5 pa (.lst []) pa = some (.lst []) := put_same
    generalize DL.put S5 pa (.lst []) = S6 at k6 a6 b6 c6 ⊢
    walk_at "dm"
    with_reducible refine s_kLs (szl (by simp)) fun sy hsy => ?_
    have syr : sy ≠ rc := fun z => by subst z; rw [a6] at hsy; cases hsy
    have syn : sy ≠ na := fun z => by subst z; rw [b6] at hsy; cases hsy
    have syp : sy ≠ pa := fun z => by subst z; rw [c6] at hsy; cases hsy
    have syS := k6.none_ hsy
    have k7 := k6.new (o := .lst []) hsy
    have a7 := (put_ne (S := S6) (o := .lst []) syr.symm).trans a6
    have b7 := (put_ne (S := S6) (o := .lst []) syn.symm).trans b6
    have c7 := (put_ne (S := S6) (o := .lst []) syp.symm).trans c6
    have d7 : DL.put S6 sy (.lst []) sy = some (.lst []) := put_same
    generalize DL.put S6 sy (.lst []) = S7 at k7 a7 b7 c7 d7 ⊢
    walk_at "dm"
    with_reducible refine s_kLs (szl (by simp)) fun wr' hwr => ?_
    have wrr : wr' ≠ rc := fun z => by subst z; rw [a7] at hwr; cases hwr
    have wrn : wr' ≠ na := fun z => by subst z; rw [b7] at hwr; cases hwr
    have wrp : wr' ≠ pa := fun z => by subst z; rw [c7] at hwr; cases hwr
    have wry : wr' ≠ sy := fun z => by subst z; rw [d7] at hwr; cases hwr
    have wrS := k7.none_ hwr
    have k8 := k7.new (o := .lst []) hwr
    have a8 := (put_ne (S := S7) (o := .lst []) wrr.symm).trans a7
    have b8 := (put_ne (S := S7) (o := .lst []) wrn.symm).trans b7
    have c8 := (put_ne (S := S7) (o := .lst []) wrp.symm).trans c7
    have d8 := (put_ne (S := S7) (o := .lst []) wry.symm).trans d7
    have e8 : DL.put S7 wr' (.lst []) wr' = some (.lst []) := put_same
    generalize DL.put S7 wr' (.lst []) = S8 at k8 a8 b8 c8 d8 e8 ⊢
    clear k4 k5 k6 k7 a5 a6 a7 b5 b6 b7 c6 c7 d7 e4
    walk_at "dm"
    refine s_kDi (kvs := [(.inr "read", .ref na), (.inr "peek", .ref pa), (.inr "say", .ref sy), (.inr "write", .ref wr')]) rfl a8 (by simp) ?_
    have k9 := k8.wr (o := .dic (mergeD [] [(.inr "read", .ref na), (.inr "peek", .ref pa), (.inr "say", .ref sy), (.inr "write", .ref wr')])) hrc
    have a9 : DL.put S8 rc (.dic (mergeD [] [(.inr "read", .ref na), (.inr "peek", .ref pa), (.inr "say", .ref sy), (.inr "write", .ref wr')])) rc = some (.dic (mergeD [] [(.inr "read", .ref na), (.inr "peek", .ref pa), (.inr "say", .ref sy), (.inr "write", .ref wr')])) := put_same
    have pp : ∀ b o, b ≠ rc → S8 b = some o → DL.put S8 rc (.dic (mergeD [] [(.inr "read", .ref na), (.inr "peek", .ref pa), (.inr "say", .ref sy), (.inr "write", .ref wr')])) b = some o := fun b o h1 h2 => (put_ne h1).trans h2
    have b9 := pp _ _ nar b8
    have c9 := pp _ _ par c8
    have d9 := pp _ _ syr d8
    have e9 := pp _ _ wrr e8
    clear pp
    generalize DL.put S8 rc (.dic (mergeD [] [(.inr "read", .ref na), (.inr "peek", .ref pa), (.inr "say", .ref sy), (.inr "write", .ref wr')])) = S9 at k9 a9 b9 c9 d9 e9 ⊢
    walk_at "dm"
    with_reducible refine s_dnew fun sa hsa => ?_
    have sar : sa ≠ rc := fun z => by subst z; rw [a9] at hsa; cases hsa
    have san : sa ≠ na := fun z => by subst z; rw [b9] at hsa; cases hsa
    have sap : sa ≠ pa := fun z => by subst z; rw [c9] at hsa; cases hsa
    have say : sa ≠ sy := fun z => by subst z; rw [d9] at hsa; cases hsa
    have saw : sa ≠ wr' := fun z => by subst z; rw [e9] at hsa; cases hsa
    have saS := k9.none_ hsa
    have dd : Rd S3 rc sa na pa sy wr' := ⟨hrc, saS, naS, paS, syS, wrS, sar.symm, nar.symm, par.symm, syr.symm, wrr.symm, san, sap, say, saw, pan.symm, syn.symm, wrn.symm, syp.symm, wrp.symm, wry.symm⟩
    have LR : Lr S3 sa rc na pa sy wr' x.df (r0 x.df) 0 (DL.put S9 sa (.dic [])) := by
      refine ⟨⟨[], put_same, fun z => rfl, Nat.le_refl _⟩, ⟨_, (put_ne sar.symm).trans a9, ?_, ?_, ?_, ?_⟩, (put_ne san.symm).trans b9, (put_ne sap.symm).trans c9, (put_ne say.symm).trans d9, (put_ne saw.symm).trans e9, Nat.le_refl _, Nat.le_refl _, Nat.le_refl _, Nat.le_refl _, k9.new hsa⟩ <;>
        (simp only [mergeD, List.foldl_cons, List.foldl_nil]; repeat (first | rw [valD_put, if_pos (by with_reducible rfl)] | rw [valD_put, if_neg (by decide +kernel)]))
    generalize DL.put S9 sa (.dic []) = S10 at LR ⊢
    walk_at "dm"
    refine true_rows_ok (h := ⟨true, false, false, x.words, x.sources, x.sources ++ (x.derived.take i).map (·.1), slots⟩) dd e3 (T := derT x.df (srcT x.df (x.sources.zip us)) (x.derived.take i)) r3 6 p.2 (r := r0 x.df) rfl LR bo.ok (by omega) (by omega) fun S11 L11 => ?_
    have t11 := L11.kp _ _ e3
    have pl := putD_len (kvs := kv3) (k := (.inr p.1 : Key)) (v := .str ((rowsRun (derT x.df (srcT x.df (x.sources.zip us)) (x.derived.take i)) p.2 (r0 x.df)).given.getD x.df))
    have fin : ∀ (a b c : Option D), nx [some (.tup [.tup (x.words.map D.str), .tp true (x.sources.map D.str), .tup (x.derived.map pairD), .tup (x.effects.map pairD)]), some wd, some (.ref tk), x3, a, b, c] (DL.put S11 tk (.dic (putD kv3 (.inr p.1) (.str ((rowsRun (derT x.df (srcT x.df (x.sources.zip us)) (x.derived.take i)) p.2 (r0 x.df)).given.getD x.df))))) := fun a b c => by
      refine hnx _ _ ⟨_, _, _, _, rfl, put_same, by omega, ?_, (k3.trans L11.kp).wr htk⟩
      rw [derT_take hp, take_names hp, ← List.append_assoc]
      exact r3.put
    cases q : (rowsRun (derT x.df (srcT x.df (x.sources.zip us)) (x.derived.take i)) p.2 (r0 x.df)).given with
    | none =>
      rw [q] at fin
      unfold givD
      walk_at "dm"
      refine s_kgID t11 rfl (szlt (by omega)) ?_
      exact fin _ _ _
    | some z =>
      rw [q] at fin
      unfold givD
      walk_at "dm"
      with_reducible refine s_isSN ?_
      walk_at "dm"
      refine s_kgID t11 rfl (szlt (by omega)) ?_
      exact fin _ _ _
  rintro _ S3 ⟨x4, x5, x6, kv3, rfl, e3, l3, r3, k3⟩
  rw [Nat.zero_add, List.length_map, List.take_length] at r3
  refine ⟨trivial, ?_⟩
  walk_at "dm"
  exact hQ tk kv3 S3 htk e3 r3 k3

set_option Elab.async false
set_option linter.all false
set_option maxRecDepth 100000
set_option maxHeartbeats 2000000
/-! P2s: a body, its path; a true run. -/
open PySem PySem.Spec PyProof.Rows L2 DL
theorem nodup_at {zs : List Str} (h : zs.Nodup) {i j : Nat} {z : Str} (hi : zs[i]? = some z) (hj : zs[j]? = some z) : i = j := by
  obtain ⟨a, ea⟩ := List.getElem?_eq_some_iff.mp hi
  obtain ⟨b, eb⟩ := List.getElem?_eq_some_iff.mp hj
  exact (List.getElem_inj h).mp (ea.trans eb.symm)
theorem names_at {ps : List (Str × List Row)} {i : Nat} {p : Str × List Row} (h : ps[i]? = some p) : (ps.map (·.1))[i]? = some p.1 := by rw [List.getElem?_map, h]; rfl
theorem body_ok {K : PySem.W.Frag} {S : Sto} {o : Addr} {x : Parts} {slots : List Str} {pk wr : Bool} {j : Nat} {p : Str × List Row} {Q : DQ} {E : XQ} (G : FPr K) (P : PartsOk x slots pk wr) (eo : S o = some (progO K x)) (hp : (x.derived ++ x.effects)[j]? = some p) (hQ : Q (.tup (rowsD p.2)) S) :
    sp_Program_body K [.ref o, .str p.1] S Q E := by
  obtain ⟨f1, f2, f3, f4⟩ := G
  unfold progO at eo
  have nd : ((x.derived ++ x.effects).map (·.1)).Nodup := by
    have := P.nn.2
    rw [List.append_assoc, ← List.map_append] at this
    exact (List.nodup_append.mp this).2.1
  have d6 := P.d6
  have e4 := P.e4
  have hj := (List.getElem?_eq_some_iff.mp hp).1
  refine spB_mk rfl ?_
  unfold b_Program_body
  walk_at "dm"
  with_reducible refine s_addT (szl (by simp; omega)) ?_
  walk_at "dm"
  rw [← List.map_append]
  refine for_ix (fun i env S' => ∃ x2 : Option D, env = [some (.ref o), some (.str p.1), x2] ∧ S' = S ∧ i ≤ j) _ 0 ⟨_, rfl, rfl, Nat.zero_le _⟩ ?_ ?_
  · rintro i y _ S1 hy ⟨x2, rfl, rfl, hi⟩ nx hnx
    rw [Nat.zero_add] at hi hnx
    obtain ⟨p', hp', rfl⟩ := pair_at hy
    refine ⟨trivial, ?_⟩
    walk_at "dm"
    with_reducible refine s_ifD (fun h => ?_) (fun h => ?_)
    · have ij := nodup_at nd (names_at hp') (by rw [h]; exact names_at hp)
      subst ij
      rw [hp] at hp'
      cases hp'
      walk_at "dm"
      exact hQ
    · walk_at "dm"
      refine hnx _ _ ⟨_, rfl, rfl, ?_⟩
      have : i ≠ j := fun z => by subst z; rw [hp] at hp'; cases hp'; exact h rfl
      omega
  · rintro _ S1 ⟨x2, rfl, rfl, hi⟩
    rw [Nat.zero_add, List.length_map] at hi
    omega
theorem path_der_ok {K : PySem.W.Frag} {S : Sto} {o : Addr} {x : Parts} {slots : List Str} {pk wr : Bool} {j : Nat} {p : Str × List Row} {Q : DQ} {E : XQ} (G : FPr K) (P : PartsOk x slots pk wr) (eo : S o = some (progO K x)) (hp : x.derived[j]? = some p) (hQ : Q (.tup [.str "derived", .int j]) S) :
    sp_Program_body_path K [.ref o, .str p.1] S Q E := by
  obtain ⟨f1, f2, f3, f4⟩ := G
  unfold progO at eo
  have nd : (x.derived.map (·.1)).Nodup := (List.nodup_append.mp P.nn.left.2).2.1
  have hj := (List.getElem?_eq_some_iff.mp hp).1
  refine spB_mk rfl ?_
  unfold b_Program_body_path
  walk_at "dmn"
  with_reducible refine s_seq ?_
  walk_at "dmn"
  refine for_ix (fun i env S' => ∃ x2 x3 : Option D, env = [some (.ref o), some (.str p.1), x2, x3] ∧ S' = S ∧ i ≤ j) _ 0 ⟨_, _, rfl, rfl, Nat.zero_le _⟩ ?_ ?_
  · rintro i y _ S1 hy ⟨x2, x3, rfl, rfl, hi⟩ nx hnx
    rw [Nat.zero_add] at hi hnx
    obtain ⟨y', hy', rfl⟩ := numD_at hy
    obtain ⟨p', hp', rfl⟩ := pair_at hy'
    refine ⟨trivial, ?_⟩
    walk_at "dm"
    with_reducible refine s_ifD (fun h => ?_) (fun h => ?_)
    · have ij := nodup_at nd (names_at hp') (by rw [h]; exact names_at hp)
      subst ij
      walk_at "dm"
      with_reducible refine s_kTp (szl (by simp)) ?_
      exact hQ
    · walk_at "dm"
      refine hnx _ _ ⟨_, _, rfl, rfl, ?_⟩
      have : i ≠ j := fun z => by subst z; rw [hp] at hp'; cases hp'; exact h rfl
      omega
  · rintro _ S1 ⟨x2, x3, rfl, rfl, hi⟩
    rw [Nat.zero_add, numD_len, List.length_map] at hi
    omega
theorem path_eff_ok {K : PySem.W.Frag} {S : Sto} {o : Addr} {x : Parts} {slots : List Str} {pk wr : Bool} {j : Nat} {p : Str × List Row} {Q : DQ} {E : XQ} (G : FPr K) (P : PartsOk x slots pk wr) (eo : S o = some (progO K x)) (hp : x.effects[j]? = some p) (hQ : Q (.tup [.str "effects", .int j]) S) :
    sp_Program_body_path K [.ref o, .str p.1] S Q E := by
  obtain ⟨f1, f2, f3, f4⟩ := G
  unfold progO at eo
  have nd : (x.effects.map (·.1)).Nodup := (List.nodup_append.mp P.nn.2).2.1
  have ne : ∀ z ∈ x.derived.map (·.1), z ≠ p.1 := fun z hz e => (List.nodup_append.mp P.nn.2).2.2 z (List.mem_append_right _ hz) p.1 (List.mem_of_getElem? (names_at hp)) e
  have hj := (List.getElem?_eq_some_iff.mp hp).1
  refine spB_mk rfl ?_
  unfold b_Program_body_path
  walk_at "dmn"
  with_reducible refine s_seq ?_
  walk_at "dmn"
  refine for_ix (fun i env S' => ∃ x2 x3 : Option D, env = [some (.ref o), some (.str p.1), x2, x3] ∧ S' = S) _ 0 ⟨_, _, rfl, rfl⟩ ?_ ?_
  · rintro i y _ S1 hy ⟨x2, x3, rfl, rfl⟩ nx hnx
    obtain ⟨y', hy', rfl⟩ := numD_at hy
    obtain ⟨p', hp', rfl⟩ := pair_at hy'
    refine ⟨trivial, ?_⟩
    walk_at "dm"
    with_reducible refine s_ifD (fun h => ?_) (fun h => ?_)
    · exact absurd h (ne _ (List.mem_of_getElem? (names_at hp')))
    · walk_at "dm"
      exact hnx _ _ ⟨_, _, rfl, rfl⟩
  rintro _ S1 ⟨x2, x3, rfl, rfl⟩
  refine ⟨trivial, ?_⟩
  walk_at "dmn"
  with_reducible refine s_seq ?_
  walk_at "dmn"
  refine for_ix (fun i env S' => ∃ x2 x3 : Option D, env = [some (.ref o), some (.str p.1), x2, x3] ∧ S' = S1 ∧ i ≤ j) _ 0 ⟨_, _, rfl, rfl, Nat.zero_le _⟩ ?_ ?_
  · rintro i y _ S2 hy ⟨x2, x3, rfl, rfl, hi⟩ nx hnx
    rw [Nat.zero_add] at hi hnx
    obtain ⟨y', hy', rfl⟩ := numD_at hy
    obtain ⟨p', hp', rfl⟩ := pair_at hy'
    refine ⟨trivial, ?_⟩
    walk_at "dm"
    with_reducible refine s_ifD (fun h => ?_) (fun h => ?_)
    · have ij := nodup_at nd (names_at hp') (by rw [h]; exact names_at hp)
      subst ij
      walk_at "dm"
      with_reducible refine s_kTp (szl (by simp)) ?_
      exact hQ
    · walk_at "dm"
      refine hnx _ _ ⟨_, _, rfl, rfl, ?_⟩
      have : i ≠ j := fun z => by subst z; rw [hp] at hp'; cases hp'; exact h rfl
      omega
  · rintro _ S2 ⟨x2, x3, rfl, rfl, hi⟩
    rw [Nat.zero_add, numD_len, List.length_map] at hi
    omega
/-- what is told of a run -/
def runD (r : RS) (wd : D) : List (Key × D) := [(.inr "notes", .tup (r.notes.map prD)), (.inr "peeks", .tup (r.peeks.map prD)), (.inr "says", .tup (r.says.map D.str)), (.inr "writes", .tup (r.written.map prD)), (.inr "word", wd)]
/-- the pair at j of all bodies: its word's shape -/
def wdOf (x : Parts) (j : Nat) (r : RS) : D := if j < x.derived.length then .str (r.given.getD x.df) else .non
theorem body_all {x : Parts} {slots : List Str} {pk wr : Bool} {j : Nat} {p : Str × List Row} (P : PartsOk x slots pk wr) (hp : (x.derived ++ x.effects)[j]? = some p) : ∃ h : Shp, BodyOk h p.2 ∧ ∀ c ∈ h.cells, c ∈ x.cells := by
  rw [List.getElem?_append] at hp
  split at hp
  · refine ⟨_, P.der j p hp, fun c hc => ?_⟩
    unfold Parts.cells
    rcases List.mem_append.mp hc with z | z
    · exact List.mem_append_left _ z
    · refine List.mem_append_right _ ?_
      rw [List.map_take] at z
      exact List.mem_of_mem_take z
  · exact ⟨_, P.eff p (List.mem_of_getElem? hp), fun c hc => hc⟩
theorem true_run_ok {K : PySem.W.Frag} {S : Sto} {o : Addr} {x : Parts} {slots us : List Str} {pk wr : Bool} {j : Nat} {p : Str × List Row} {Q : DQ} {E : XQ} (G : FPr K) (F : FTr K) (P : PartsOk x slots pk wr) (eo : S o = some (progO K x)) (W : WdOk x us) (hp : (x.derived ++ x.effects)[j]? = some p)
    (hQ : ∀ q S', S q = none → S' q = some (.dic (runD (rowsRun (x.tab us) p.2 (r0 x.df)) (wdOf x j (rowsRun (x.tab us) p.2 (r0 x.df))))) → (rowsRun (x.tab us) p.2 (r0 x.df)).notes.length ≤ 100 → (rowsRun (x.tab us) p.2 (r0 x.df)).peeks.length ≤ 100 → Kp S S' → Q (.ref q) S') :
    sp_true_run K [.ref o, .tup (us.map D.str), .str p.1] S Q E := by
  have hdf := df_at P.w2
  have eo' := eo
  unfold progO at eo
  obtain ⟨h, bo, hc⟩ := body_all P hp
  have bc := bo.cnt
  have bd := bo.dep
  have F' := F
  have G' := G
  obtain ⟨f1, f2, f3, f4⟩ := G
  obtain ⟨g1, g2, g3, g4, g5, g6, g7, g8, g9, g10⟩ := F
  refine spB_mk rfl ?_
  unfold b_true_run
  walk_at "dm"
  refine table_ok G' F' P eo' W fun tk tkv S1 htk et rt _ k1 => ?_
  have o1 := k1 _ _ eo
  have o1' := k1 _ _ eo'
  walk_at "dm"
  refine body_ok G' P o1' hp ?_
  walk_at "dmn"
  with_reducible refine s_cut (fun env S2 => ∃ (k : Str) (jj : Int), env = [some (.ref o), some (.tup (us.map D.str)), some (.str p.1), some (.ref tk), some (.tup (rowsD p.2)), some (.tup [.str k, .int jj]), none, none] ∧ S2 = S1 ∧ k = (if j < x.derived.length then "derived" else "effects")) ?_ ?_
  rotate_left
  · intro nx hnx
    walk_at "dm"
    have hp' := hp
    rw [List.getElem?_append] at hp'
    split at hp'
    · rename_i hj
      refine path_der_ok G' P o1' hp' ?_
      walk_at "dm"
      exact hnx _ _ ⟨_, _, rfl, rfl, by rw [if_pos hj]⟩
    · rename_i hj
      refine path_eff_ok G' P o1' hp' ?_
      walk_at "dm"
      exact hnx _ _ ⟨_, _, rfl, rfl, by rw [if_neg hj]⟩
  rintro _ S2 ⟨kk, jj, rfl, rfl, hk⟩
  walk_at "dm"
  intro q hq
  refine init_ok F' hq fun sa na pa sy wr' S3 d R => ⟨rfl, ?_⟩
  have e3 := R.ob
  walk_at "dm"
  refine do_rows_ok F' d et (T := x.tab us) (h := h) (fun c hcc => rt c (hc c hcc)) 6 p.2 R bo.ok (by omega) (by omega) (by simp) fun S4 R4 => ?_
  generalize er : rowsRun (x.tab us) p.2 (r0 x.df) = r at R4 hQ
  have e4 := R4.ob
  have b1 := R4.b1
  have b2 := R4.b2
  have k4 : Kp S S4 := k1.trans R4.kp
  walk_at "dmn"
  with_reducible refine s_seq ?_
  walk_at "dmn"
  with_reducible refine s_cut (fun env S5 => env = [some (.ref o), some (.tup (us.map D.str)), some (.str p.1), some (.ref tk), some (.tup (rowsD p.2)), some (.tup [.str kk, .int jj]), some (.ref q), some (wdOf x j r)] ∧ S5 = S4) ?_ ?_
  rotate_left
  · intro nx hnx
    unfold wdOf at hnx
    by_cases hj : j < x.derived.length
    · rw [if_pos hj] at hk hnx
      subst hk
      walk_at "dm"
      refine held_word_ok F' R4 ?_
      walk_at "dm"
      exact hnx _ _ ⟨rfl, rfl⟩
    · rw [if_neg hj] at hk hnx
      subst hk
      walk_at "dm"
      exact hnx _ _ ⟨rfl, rfl⟩
  rintro _ S5 ⟨rfl, rfl⟩
  have n4 := R4.no
  have p4 := R4.pe
  have y4 := R4.sa'
  have w4 := R4.wr'
  walk_at "dm"
  refine s_disp fun z hz => ?_
  have k5 := k4.new (o := .dic []) hz
  have ne : ∀ b o, S5 b = some o → b ≠ z := fun b o e q => by subst q; rw [e] at hz; cases hz
  have e5 := (put_ne (S := S5) (o := .dic []) (ne _ _ e4)).trans e4
  have n5 := (put_ne (S := S5) (o := .dic []) (ne _ _ n4)).trans n4
  have p5 := (put_ne (S := S5) (o := .dic []) (ne _ _ p4)).trans p4
  have y5 := (put_ne (S := S5) (o := .dic []) (ne _ _ y4)).trans y4
  have w5 := (put_ne (S := S5) (o := .dic []) (ne _ _ w4)).trans w4
  have z5 : DL.put S5 z (.dic []) z = some (.dic []) := put_same
  generalize DL.put S5 z (.dic []) = S6 at k5 e5 n5 p5 y5 w5 z5 ⊢
  walk_at "dm"
  refine s_kDi (kvs := runD r (wdOf x j r)) rfl z5 (by simp [runD]) ?_
  have em : mergeD [] (runD r (wdOf x j r)) = runD r (wdOf x j r) := rfl
  rw [em]
  exact hQ z _ (k4.none_ hz) put_same (by omega) (by omega) (k5.wr (k4.none_ hz))

set_option Elab.async false
set_option linter.all false
set_option maxRecDepth 100000
set_option maxHeartbeats 2000000
/-! P2t: comprehensions that filter; tellings; rows of words; agree. -/
open PySem PySem.Spec PyProof.Rows L2 DL
def kLt (m : EM) (env2 : Slo) (p : Addr) (nx : Sto → Prop) : Bool → Sto → Prop := fun c S3 => match c with
  | true => m env2 S3 (kApp p nx)
  | false => nx S3
theorem s_kLt {m : EM} {env2 : Slo} {p : Addr} {nx : Sto → Prop} {c : Bool} {S : Sto} (ht : c = true → m env2 S (kApp p nx)) (hf : c = false → nx S) : kLt m env2 p nx c S := by
  cases c with
  | true => exact ht rfl
  | false => exact hf rfl
theorem kp_at {S S' : Sto} {p : Addr} {o : O} (k : Kp S S') (h : S p = some o) : S' p = some o := k _ _ h
/-- a comprehension with a test, over a typed list -/
theorem lc_fm {α : Type} {g : GM} {t : TM} {m : EM} {G : Sto → Prop} {p : Addr} {Q : DQ} {env : Slo} (xs : List α) (f : α → D) (b : α → Bool) (r : α → D) {S0 S : Sto} (hp : S p = some (.lst [])) (h0 : S0 p = none) (k0 : Kp S0 S) (hl : xs.length ≤ 1000)
    (step : ∀ a ∈ xs, ∀ S, Kp S0 S → ∀ nx : Sto → Prop, (b a = true → ∀ S', Kp S S' → kApp p nx (r a) S') → (b a = false → ∀ S', Kp S S' → nx S') → G S ∧ g (f a) env S fun env2 S2 => t env2 S2 (kLt m env2 p nx))
    (done : ∀ S', S' p = some (.lst ((xs.filter b).map r)) → Kp S0 S' → G S' ∧ Q (.ref p) S') : lcL g t m G p Q env (xs.map f) S := by
  refine lc_ix (fun i ys S' => ys = ((xs.take i).filter b).map r ∧ Kp S0 S') (xs.map f) 0 hp ⟨by simp, k0⟩ ?_ ?_
  · rintro i y S1 ys hy e1 ⟨rfl, k1⟩ nx hnx
    rw [Nat.zero_add] at hnx e1
    rw [List.getElem?_map] at hy
    cases ea : xs[i]? with
    | none => rw [ea] at hy; cases hy
    | some a =>
      rw [ea] at hy
      cases hy
      have hi : i < xs.length := (List.getElem?_eq_some_iff.mp ea).1
      have et : xs.take (i + 1) = xs.take i ++ [a] := by rw [List.take_succ, ea]; rfl
      have hlen : (((xs.take i).filter b).map r).length ≤ 1000 := by
        rw [List.length_map]
        exact Nat.le_trans (List.length_filter_le _ _) (by simp; omega)
      obtain ⟨q1, q2⟩ := step a (List.mem_of_getElem? ea) S1 k1 nx (fun hb S' k => s_kApp (k _ _ e1) (szlt hlen) (hnx _ _ put_same ⟨by rw [et, List.filter_append]; simp [hb], (k1.trans k).wr h0⟩))
        (fun hb S' k => hnx _ _ (k _ _ e1) ⟨by rw [et, List.filter_append]; simp [hb], k1.trans k⟩)
      exact ⟨q1, q2⟩
  · rintro S1 ys e1 ⟨rfl, k1⟩
    rw [Nat.zero_add, List.length_map, List.take_length] at e1
    exact done S1 e1 k1
theorem lc_m {α : Type} {g : GM} {m : EM} {G : Sto → Prop} {p : Addr} {Q : DQ} {env : Slo} (xs : List α) (f : α → D) (r : α → D) {S0 S : Sto} (hp : S p = some (.lst [])) (h0 : S0 p = none) (k0 : Kp S0 S) (hl : xs.length ≤ 1000)
    (step : ∀ a ∈ xs, ∀ S, Kp S0 S → ∀ nx : Sto → Prop, (∀ S', Kp S S' → kApp p nx (r a) S') → G S ∧ g (f a) env S fun env2 S2 => m env2 S2 (kApp p nx))
    (done : ∀ S', S' p = some (.lst (xs.map r)) → Kp S0 S' → G S' ∧ Q (.ref p) S') : lcL g mYes m G p Q env (xs.map f) S := by
  refine lc_fm xs f (fun _ => true) r hp h0 k0 hl (fun a ha S k nx hT _ => ?_) (fun S' e k => done S' (by rw [List.filter_eq_self.mpr fun _ _ => rfl] at e; exact e) k)
  obtain ⟨q1, q2⟩ := step a ha S k nx (hT rfl)
  exact ⟨q1, q2⟩
/-! ### what a body tells -/
abbrev Told : Type := Option Str × List Str × List (Str × Str)
def told_d (t : Told) : D := .tup [givD t.1, .tup (t.2.1.map D.str), .tup (t.2.2.map prD)]
def optP : Option Str → PyData
  | some z => .str z
  | none => .none
def prP (p : Str × Str) : PyData := .tuple [.str p.1, .str p.2]
def told_p (t : Told) : PyData := .tuple [optP t.1, .tuple (t.2.1.map PyData.str), .tuple (t.2.2.map prP)]
theorem rs_prs {S : Sto} {n : Nat} (zs : List (Str × Str)) : (zs.map prD).mapM (rs S (n + 2)) = some (zs.map prP) := by
  induction zs with
  | nil => rfl
  | cons z zs ih =>
    rw [List.map_cons, List.mapM_cons, ih]
    rfl
theorem rs_told {S : Sto} (t : Told) : rs S 40 (told_d t) = some (told_p t) := by
  have e1 : rs S 39 (givD t.1) = some (optP t.1) := by cases t.1 <;> rfl
  have e2 : rs S 39 (.tup (t.2.1.map D.str)) = some (.tuple (t.2.1.map PyData.str)) := by
    show (List.mapM (rs S 38) _).map PyData.tuple = _
    rw [rs_strs]
    rfl
  have e3 : rs S 39 (.tup (t.2.2.map prD)) = some (.tuple (t.2.2.map prP)) := by
    show (List.mapM (rs S 38) _).map PyData.tuple = _
    rw [rs_prs]
    rfl
  show (List.mapM (rs S 39) [_, _, _]).map PyData.tuple = _
  rw [List.mapM_cons, List.mapM_cons, List.mapM_cons, e1, e2, e3]
  rfl
theorem eqvAll_map {α : Type} [DecidableEq α] {f : α → PyData} (h : ∀ a b, PyData.eqv (f a) (f b) = decide (a = b)) : ∀ xs ys : List α, PyData.eqvAll (xs.map f) (ys.map f) = decide (xs = ys)
  | [], [] => by simp [PyData.eqvAll]
  | [], y :: ys => by simp [PyData.eqvAll]
  | x :: xs, [] => by simp [PyData.eqvAll]
  | x :: xs, y :: ys => by
    rw [List.map_cons, List.map_cons, PyData.eqvAll, h, eqvAll_map h xs ys]
    by_cases e : x = y
    · subst e; simp
    · simp [e]
theorem eqv_str (a b : Str) : PyData.eqv (.str a) (.str b) = decide (a = b) := (dec_eqv_str a b).symm
theorem eqv_pr (a b : Str × Str) : PyData.eqv (prP a) (prP b) = decide (a = b) := by
  obtain ⟨a1, a2⟩ := a
  obtain ⟨b1, b2⟩ := b
  unfold prP
  rw [PyData.eqv, PyData.eqvAll, PyData.eqvAll, PyData.eqvAll, eqv_str, eqv_str]
  by_cases e1 : a1 = b1
  · subst e1
    by_cases e2 : a2 = b2
    · subst e2; simp
    · simp [e2]
  · simp [e1]
theorem eqv_opt (a b : Option Str) : PyData.eqv (optP a) (optP b) = decide (a = b) := by
  cases a with
  | none => cases b <;> simp [optP, PyData.eqv]
  | some a =>
    cases b with
    | none => simp [optP, PyData.eqv]
    | some b =>
      unfold optP
      rw [eqv_str]
      by_cases e : a = b
      · subst e; simp
      · simp [e]
theorem eqv_told (t u : Told) : PyData.eqv (told_p t) (told_p u) = decide (t = u) := by
  obtain ⟨a, b, c⟩ := t
  obtain ⟨a', b', c'⟩ := u
  unfold told_p
  rw [PyData.eqv, PyData.eqvAll, PyData.eqvAll, PyData.eqvAll, PyData.eqvAll, PyData.eqv, PyData.eqv, eqv_opt, eqvAll_map eqv_str, eqvAll_map eqv_pr]
  by_cases e1 : a = a'
  · subst e1
    by_cases e2 : b = b'
    · subst e2
      by_cases e3 : c = c'
      · subst e3; simp
      · simp [e3]
    · simp [e2]
  · simp [e1]
theorem s_eqTold {g : Bool → Bool} {t u : Told} {S : Sto} {Q : DQ} (h : Q (.bl (g (decide (t = u)))) S) : vEqG g (told_d t) (told_d u) S Q := by
  have e1 := rs_told (S := S) t
  have e2 := rs_told (S := S) u
  unfold told_d at e1 e2 ⊢
  unfold vEqG
  simp only [e1, e2]
  rw [eqv_told]
  exact h
def Parts.tell (x : Parts) (j : Nat) (p : Str × List Row) (us : List Str) : Told :=
  (if j < x.derived.length then some ((rowsRun (x.tab us) p.2 (r0 x.df)).given.getD x.df) else none, (rowsRun (x.tab us) p.2 (r0 x.df)).says, (rowsRun (x.tab us) p.2 (r0 x.df)).written)
theorem wd_giv (x : Parts) (j : Nat) (r : RS) : wdOf x j r = givD (if j < x.derived.length then some (r.given.getD x.df) else none) := by
  unfold wdOf
  split <;> rfl
section
variable {K : PySem.W.Frag} {S : Sto} {o : Addr} {x : Parts} {slots us : List Str} {pk wr : Bool} {j : Nat} {p : Str × List Row} {Q : DQ} {E : XQ}
theorem telling_ok (G : FPr K) (F : FTr K) (P : PartsOk x slots pk wr) (eo : S o = some (progO K x)) (W : WdOk x us) (hp : (x.derived ++ x.effects)[j]? = some p)
    (hQ : ∀ S', Kp S S' → Q (told_d (x.tell j p us)) S') : sp_telling K [.ref o, .tup (us.map D.str), .str p.1] S Q E := by
  refine spB_mk rfl ?_
  unfold b_telling
  walk_at "dm"
  refine true_run_ok G F P eo W hp fun q S1 hq e1 _ _ k1 => ?_
  walk_at "dm"
  refine s_kTp (szl (by simp)) ?_
  have h := hQ _ k1
  unfold told_d Parts.tell at h
  rw [wd_giv]
  exact h
end
/-! ### rows of words -/
def rowsW (ws : List Str) : Nat → List (List Str)
  | 0 => [[]]
  | n + 1 => (rowsW ws n).flatMap fun r => ws.map fun w => r ++ [w]
theorem rowsW_mem {ws : List Str} : ∀ {n : Nat} {us : List Str}, us ∈ rowsW ws n ↔ us.length = n ∧ ∀ u ∈ us, u ∈ ws
  | 0, us => by
    rw [rowsW, List.mem_singleton]
    constructor
    · rintro rfl
      exact ⟨rfl, fun u hu => by simp at hu⟩
    · rintro ⟨h, _⟩
      exact List.eq_nil_of_length_eq_zero h
  | n + 1, us => by
    rw [rowsW, List.mem_flatMap]
    constructor
    · rintro ⟨r, hr, hm⟩
      obtain ⟨w, hw, rfl⟩ := List.mem_map.mp hm
      obtain ⟨h1, h2⟩ := rowsW_mem.mp hr
      refine ⟨by simp [h1], fun u hu => ?_⟩
      rcases List.mem_append.mp hu with q | q
      · exact h2 u q
      · rw [List.mem_singleton.mp q]; exact hw
    · rintro ⟨h1, h2⟩
      have hne : us ≠ [] := fun e => by rw [e] at h1; simp at h1
      refine ⟨us.dropLast, rowsW_mem.mpr ⟨by simp [h1], fun u hu => h2 u ((List.dropLast_sublist us).subset hu)⟩, List.mem_map.mpr ⟨us.getLast hne, h2 _ (List.getLast_mem hne), List.dropLast_concat_getLast hne⟩⟩
theorem flat_len {α β : Type} {f : α → List β} {k : Nat} (h : ∀ a, (f a).length = k) : ∀ xs : List α, (xs.flatMap f).length = xs.length * k
  | [] => by simp
  | x :: xs => by rw [List.flatMap_cons, List.length_append, flat_len h xs, h, List.length_cons, Nat.succ_mul, Nat.add_comm]
theorem rowsW_len {ws : List Str} : ∀ n : Nat, (rowsW ws n).length = ws.length ^ n
  | 0 => rfl
  | n + 1 => by rw [rowsW, flat_len (k := ws.length) (fun a => by simp), rowsW_len n, Nat.pow_succ]
theorem rowsW_le {ws : List Str} (h : ws.length ≤ 4) {n : Nat} (hn : n ≤ 4) : (rowsW ws n).length ≤ 256 := by
  rw [rowsW_len]
  exact Nat.le_trans (Nat.pow_le_pow_left h n) (Nat.le_trans (Nat.pow_le_pow_right (by decide) hn) (by decide))
def Parts.rows (x : Parts) : List (List Str) := rowsW x.words x.sources.length
def tupS (r : List Str) : D := .tup (r.map D.str)
def rowE (o l : Addr) (x2 : Option D) : Slo := [some (.ref o), some (.ref l), x2, none, none]
theorem s_yes {env : Slo} {S : Sto} {TQ : Bool → Sto → Prop} (h : TQ true S) : mYes env S TQ := h
/-- the inner loop -/
theorem inner_w {p : Addr} {N : Sto → Prop} {o l : Addr} {x2 : Option D} {row : List Str} (hr : row.length ≤ 100) : ∀ (ws : List Str) {S : Sto} {acc : List D}, S p = some (.lst acc) → acc.length + ws.length ≤ 1000 →
    (∀ S', S' p = some (.lst (acc ++ (ws.map fun w => row ++ [w]).map tupS)) → (∀ b, b ≠ p → S' b = S b) → N S') →
    lcI (gNm 4) mYes (mOp vAdd (mVar 3) (mTup (mCons (mVar 4) mNil))) (fun _ => True) p N [some (.ref o), some (.ref l), x2, some (tupS row), none] (ws.map D.str) S
  | [], S, acc, e, hl, hN => ⟨trivial, hN S (by simpa using e) fun _ _ => rfl⟩
  | w :: ws, S, acc, e, hl, hN => by
    refine ⟨trivial, ?_⟩
    refine s_gNm ?_
    show mOp vAdd (mVar 3) (mTup (mCons (mVar 4) mNil)) [some (.ref o), some (.ref l), x2, some (tupS row), some (.str w)] S _
    unfold tupS
    walk_at "dm"
    refine s_kTp (szl (by simp)) ?_
    walk_at "dm"
    refine s_addT (szl (by simp; omega)) ?_
    simp only [e]
    refine ⟨szlt (by simp at hl; omega), ?_⟩
    have hl' : acc.length + (ws.length + 1) ≤ 1000 := by simpa using hl
    have z := inner_w (p := p) (N := N) (o := o) (l := l) (x2 := x2) hr ws (S := DL.put S p (.lst (acc ++ [tupS (row ++ [w])]))) put_same (by simp; omega) fun S' e' h' => hN S' (by rw [e']; simp) fun b hb => (h' b hb).trans (put_ne hb)
    have et : tupS (row ++ [w]) = .tup (row.map D.str ++ [.str w]) := by unfold tupS; simp
    rw [et] at z
    unfold tupS at z
    exact z
theorem outer_w {K : PySem.W.Frag} {p : Addr} {o l : Addr} {x2 : Option D} {x : Parts} {G : Sto → Prop} {Q : DQ} {S0 : Sto} {fs : List (Str × D)} (fw : FOk K (He.ga K "Program") "words") (eo : S0 o = some (.ins (He.ga K "Program") fs)) (ef : fs.lookup ("words" : Str) = some (D.tup (x.words.map D.str))) (po : o ≠ p) {n : Nat} :
    ∀ (rows : List (List Str)), (∀ r ∈ rows, r.length ≤ 100) → ∀ {S : Sto} {acc : List D}, S p = some (.lst acc) → acc.length + rows.length * x.words.length ≤ 1000 → (∀ b, b ≠ p → S b = S0 b) → (∀ S', (∀ b, b ≠ p → S' b = S0 b) → G S') →
    (∀ S', S' p = some (.lst (acc ++ (rows.flatMap fun r => x.words.map fun w => r ++ [w]).map tupS)) → (∀ b, b ≠ p → S' b = S0 b) → Q (.ref p) S') →
    lcO (gNm 3) mYes (iSeq (mFld K (mVar 0) "words")) (gNm 4) mYes (mOp vAdd (mVar 3) (mTup (mCons (mVar 4) mNil))) [4] G p Q [some (.ref o), some (.ref l), x2, none, none] (rows.map tupS) S
  | [], _, S, acc, e, _, k, hG, hQ => ⟨hG S k, hQ S (by simpa using e) k⟩
  | row :: rows, hr, S, acc, e, hl, k, hG, hQ => by
    refine ⟨hG S k, ?_⟩
    refine s_gNm ?_
    refine s_yes ?_
    dsimp only [List.set_cons_succ, List.set_cons_zero]
    have eo' : S o = some (.ins (He.ga K "Program") fs) := (k o po).trans eo
    walk_at "dm"
    rw [List.length_cons, Nat.succ_mul] at hl
    refine inner_w (hr row (List.mem_cons_self ..)) x.words e (by omega) fun S1 e1 k1 => ?_
    refine outer_w fw eo ef po (n := n) rows (fun r h => hr r (List.mem_cons_of_mem _ h)) e1 (by simp; omega) (fun b hb => (k1 b hb).trans (k b hb)) hG fun S2 e2 k2 => hQ S2 ?_ k2
    rw [e2, List.flatMap_cons]
    simp

set_option Elab.async false
set_option linter.all false
set_option maxRecDepth 100000
set_option maxHeartbeats 2000000
/-! P2u: word_rows, agree, Tellings. -/
open PySem PySem.Spec PyProof.Rows L2 DL
theorem s_kLc2 {g : GM} {t : TM} {mi1 : IM} {g1 : GM} {t1 : TM} {m : EM} {vs vs1 : List Nat} {env : Slo} {Q : DQ} {xs : List D} {G : Sto → Prop} {S1 : Sto} (h : ∀ p, S1 p = none → lcO g t mi1 g1 t1 m vs1 G p Q (wipeD env vs) xs (DL.put S1 p (.lst []))) : kLc2 g t mi1 g1 t1 m vs vs1 env Q xs G S1 := h
def natD (i : Nat) : D := .int i
section
variable {K : PySem.W.Frag} {S : Sto} {o : Addr} {x : Parts} {slots us : List Str} {pk wr : Bool} {j : Nat} {p : Str × List Row} {Q : DQ} {E : XQ}
theorem word_rows_ok (G : FPr K) (P : PartsOk x slots pk wr) (eo : S o = some (progO K x)) (hQ : ∀ q S', S q = none → S' q = some (.lst (x.rows.map tupS)) → Kp S S' → Q (.ref q) S') : sp_word_rows K [.ref o] S Q E := by
  obtain ⟨f1, f2, f3, f4⟩ := G
  have s4 := P.s4
  have w4 := P.w4
  unfold progO at eo
  refine spB_mk rfl ?_
  unfold b_word_rows
  walk_at "dm"
  with_reducible refine s_kTp (szl (by simp)) ?_
  walk_at "dm"
  with_reducible refine s_kLs (szl (by simp)) fun l0 h0 => ?_
  have k0 : Kp S (DL.put S l0 (.lst [.tup []])) := Kp.refl.new h0
  have e0 : DL.put S l0 (.lst [.tup []]) l0 = some (.lst ((rowsW x.words 0).map tupS)) := put_same
  generalize DL.put S l0 (.lst [.tup []]) = S1 at k0 e0 ⊢
  have eo1 := k0 _ _ eo
  walk_at "dm"
  refine s_kR1 (by omega) (by simp; omega) ?_
  walk_at "dm"
  rw [show (((x.sources.map D.str).length : Nat) : Int).toNat = x.sources.length by simp]
  refine for_ix (fun i env S' => ∃ (l : Addr) (x2 : Option D), env = [some (.ref o), some (.ref l), x2, none, none] ∧ S' l = some (.lst ((rowsW x.words i).map tupS)) ∧ S l = none ∧ Kp S S') _ 0 ⟨l0, _, rfl, e0, h0, k0⟩ ?_ ?_
  · rintro i y _ S2 hy ⟨l, x2, rfl, e2, hl, k2⟩ nx hnx
    rw [Nat.zero_add] at e2 hnx
    obtain ⟨rfl, hi⟩ := rng_at hy
    refine ⟨trivial, ?_⟩
    have eo2 := k2 _ _ eo
    walk_at "dm"
    refine s_kLc2 fun q hq => ?_
    have lq : l ≠ q := fun z => by subst z; rw [e2] at hq; cases hq
    have oq : o ≠ q := fun z => by subst z; rw [eo2] at hq; cases hq
    have qS : S q = none := k2.none_ hq
    have hle := rowsW_le (ws := x.words) w4 (n := i + 1) (by omega)
    have hle0 := rowsW_le (ws := x.words) w4 (n := i) (by omega)
    rw [rowsW_len, Nat.pow_succ, ← rowsW_len] at hle
    have hw : wipeD [some (D.ref o), some (D.ref l), some (D.int i), none, none] [3, 4] = [some (D.ref o), some (D.ref l), some (D.int i), none, none] := rfl
    refine outer_w (x := x) (S0 := S2) f1 eo2 rfl oq (n := i) (rowsW x.words i) (fun r hr => by rw [(rowsW_mem.mp hr).1]; omega) put_same (by simp; omega) (fun b hb => put_ne hb) (fun S' h' => (h' l lq).trans e2) fun S3 e3 k3 => ?_
    refine s_kAsgN ?_
    refine hnx _ _ ⟨q, _, rfl, e3, qS, fun b ob eb => ?_⟩
    rw [k3 b (fun z => by subst z; rw [qS] at eb; cases eb)]
    exact k2 _ _ eb
  · rintro _ S2 ⟨l, x2, rfl, e2, hl, k2⟩
    rw [Nat.zero_add, rng_len] at e2
    refine ⟨trivial, ?_⟩
    walk_at "dm"
    exact hQ l _ hl e2 k2
/-! ### agree -/
def agB (us vs : List Str) (ps : List Nat) : Bool := ps.all fun i => decide (us[i]? = vs[i]?)
theorem at_str {us : List Str} {i : Nat} (h : i < us.length) : L2.atI (us.map D.str) (i : Int) = some (.str us[i]) := atI_nat (by rw [List.getElem?_map, List.getElem?_eq_getElem h]; rfl)
theorem agree_ok {us vs : List Str} {ps : List Nat} (h1 : ∀ i ∈ ps, i < us.length) (h2 : ∀ i ∈ ps, i < vs.length) (hl : ps.length ≤ 1000) (hQ : ∀ S', Kp S S' → Q (.bl (agB us vs ps)) S') : sp_agree K [tupS us, tupS vs, .tup (ps.map natD)] S Q E := by
  refine spB_mk rfl ?_
  unfold b_agree tupS
  walk_at "dm"
  intro q hq
  refine lc_m ps natD (fun i => .bl (decide (us[i]? = vs[i]?))) (S0 := S) put_same hq (Kp.refl.new hq) hl ?_ ?_
  · intro i hi S1 k1 nx hT
    refine ⟨trivial, ?_⟩
    have i1 := h1 i hi
    have i2 := h2 i hi
    have a1 := at_str i1
    have a2 := at_str i2
    unfold natD
    walk_at "dm"
    have e : decide (us[i] = vs[i]) = decide (us[i]? = vs[i]?) := by
      rw [List.getElem?_eq_getElem i1, List.getElem?_eq_getElem i2]
      simp
    rw [e]
    exact hT _ Kp.refl
  · intro S1 e1 k1
    refine ⟨trivial, ?_⟩
    walk_at "dm"
    refine s_all (bs := ps.map fun i => decide (us[i]? = vs[i]?)) (by rw [e1, List.map_map]; rfl) ?_
    have e : (ps.map fun i => decide (us[i]? = vs[i]?)).all id = agB us vs ps := by
      unfold agB
      rw [List.all_map]
      rfl
    rw [e]
    exact hQ _ k1
/-! ### Tellings -/
structure FTl (K : PySem.W.Frag) : Prop where
  own : FOk K (He.ga K "Tellings") "own"
  words : FOk K (He.ga K "Tellings") "words"
  sources : FOk K (He.ga K "Tellings") "sources"
  table : FOk K (He.ga K "Tellings") "table"
def tabD (x : Parts) (j : Nat) (p : Str × List Row) (r : List Str) : D := .tup [tupS r, told_d (x.tell j p r)]
def tlO (K : PySem.W.Frag) (x : Parts) (j : Nat) (p : Str × List Row) (us : List Str) (tb : Addr) : O := .ins (He.ga K "Tellings") [("own", told_d (x.tell j p us)), ("words", tupS us), ("sources", .tp true (x.sources.map D.str)), ("table", .ref tb)]
structure Tl (K : PySem.W.Frag) (x : Parts) (j : Nat) (p : Str × List Row) (us : List Str) (t tb : Addr) (S : Sto) : Prop where
  ob : S t = some (tlO K x j p us tb)
  tb_ : S tb = some (.lst (x.rows.map (tabD x j p)))
theorem Tl.kp {t tb : Addr} {S S' : Sto} (h : Tl K x j p us t tb S) (k : Kp S S') : Tl K x j p us t tb S' := ⟨k _ _ h.ob, k _ _ h.tb_⟩
theorem wd_row (P : PartsOk x slots pk wr) {r : List Str} (h : r ∈ x.rows) : WdOk x r := ⟨(rowsW_mem.mp h).1, (rowsW_mem.mp h).2⟩
theorem tl_init_ok {t : Addr} (G : FPr K) (F : FTr K) (L : FTl K) (P : PartsOk x slots pk wr) (eo : S o = some (progO K x)) (W : WdOk x us) (hp : (x.derived ++ x.effects)[j]? = some p) (ht : S t = none)
    (hQ : ∀ tb S', Kp S S' → Tl K x j p us t tb S' → Q .non S') : sp_TellingsU_initU K [.ref t, .ref o, tupS us, .str p.1] (DL.put S t (.ins (He.ga K "Tellings") [])) Q E := by
  have G' := G
  obtain ⟨f1, f2, f3, f4⟩ := G
  obtain ⟨l1, l2, l3, l4⟩ := L
  have s4 := P.s4
  have w4 := P.w4
  have k0 : Kp S (DL.put S t (.ins (He.ga K "Tellings") [])) := Kp.refl.new ht
  have e0 : DL.put S t (.ins (He.ga K "Tellings") []) t = some (.ins (He.ga K "Tellings") []) := put_same
  generalize DL.put S t (.ins (He.ga K "Tellings") []) = S0 at k0 e0 ⊢
  have hto : o ≠ t := fun z => by subst z; rw [eo] at ht; cases ht
  refine spB_mk rfl ?_
  unfold b_TellingsU_initU tupS
  walk_at "dm"
  refine telling_ok G' F P (k0 _ _ eo) W hp fun S1 k1 => ?_
  walk_at "dm"
  with_reducible refine s_kSf2 (kp_at k1 e0) l1 (by simp) ?_
  have k2 := (k0.trans k1).wr (o := .ins (He.ga K "Tellings") (putFd "own" (told_d (x.tell j p us)) [])) ht
  have e2 : DL.put S1 t (.ins (He.ga K "Tellings") (putFd "own" (told_d (x.tell j p us)) [])) t = some (.ins (He.ga K "Tellings") [("own", told_d (x.tell j p us))]) := put_same
  generalize DL.put S1 t (.ins (He.ga K "Tellings") (putFd "own" (told_d (x.tell j p us)) [])) = S2 at k2 e2 ⊢
  walk_at "dm"
  with_reducible refine s_kSf2 e2 l2 (by simp) ?_
  have k3 := k2.wr (o := .ins (He.ga K "Tellings") (putFd "words" (.tup (us.map D.str)) [("own", told_d (x.tell j p us))])) ht
  have e3 : DL.put S2 t (.ins (He.ga K "Tellings") (putFd "words" (.tup (us.map D.str)) [("own", told_d (x.tell j p us))])) t = some (.ins (He.ga K "Tellings") [("own", told_d (x.tell j p us)), ("words", .tup (us.map D.str))]) := put_same
  generalize DL.put S2 t (.ins (He.ga K "Tellings") (putFd "words" (.tup (us.map D.str)) [("own", told_d (x.tell j p us))])) = S3 at k3 e3 ⊢
  have eo3 := k3 _ _ eo
  unfold progO at eo3
  walk_at "dm"
  with_reducible refine s_kSf2 e3 l3 (by simp) ?_
  have k4 := k3.wr (o := .ins (He.ga K "Tellings") (putFd "sources" (.tp true (x.sources.map D.str)) [("own", told_d (x.tell j p us)), ("words", .tup (us.map D.str))])) ht
  have e4 : DL.put S3 t (.ins (He.ga K "Tellings") (putFd "sources" (.tp true (x.sources.map D.str)) [("own", told_d (x.tell j p us)), ("words", .tup (us.map D.str))])) t = some (.ins (He.ga K "Tellings") [("own", told_d (x.tell j p us)), ("words", .tup (us.map D.str)), ("sources", .tp true (x.sources.map D.str))]) := put_same
  generalize DL.put S3 t (.ins (He.ga K "Tellings") (putFd "sources" (.tp true (x.sources.map D.str)) [("own", told_d (x.tell j p us)), ("words", .tup (us.map D.str))])) = S4 at k4 e4 ⊢
  walk_at "dm"
  refine word_rows_ok G' P (k4 _ _ eo) fun q S5 hq e5 k5 => ?_
  walk_at "dm"
  intro z hz
  have zt : z ≠ t := fun e => by subst e; rw [k5 _ _ e4] at hz; cases hz
  refine lc_m x.rows tupS (tabD x j p) (S0 := S5) put_same hz (Kp.refl.new hz) (Nat.le_trans (rowsW_le w4 s4) (by decide)) ?_ ?_
  · intro r hr S6 k6 nx hT
    refine ⟨k6 _ _ e5, ?_⟩
    unfold tupS
    walk_at "dm"
    refine telling_ok G' F P (k6 _ _ (k5 _ _ (k4 _ _ eo))) (wd_row P hr) hp fun S7 k7 => ?_
    walk_at "dm"
    with_reducible refine s_kTp (szl (by simp)) ?_
    exact hT _ k7
  · intro S6 e6 k6
    refine ⟨k6 _ _ e5, ?_⟩
    walk_at "dm"
    with_reducible refine s_kSf2 (kp_at k6 (kp_at k5 e4)) l4 (by simp) ?_
    refine hQ z _ (((k4.trans k5).trans k6).wr ht) ⟨put_same, (put_ne zt).trans e6⟩
/-! ### its methods -/
theorem told_where_ok {t tb : Addr} {ps : List Nat} (L : FTl K) (P : PartsOk x slots pk wr) (W : WdOk x us) (T : Tl K x j p us t tb S) (hps : ∀ i ∈ ps, i < x.sources.length) (hl : ps.length ≤ 1000)
    (hQ : ∀ q S', S q = none → S' q = some (.lst (((x.rows.filter fun r => agB r us ps).map (x.tell j p)).map told_d)) → Kp S S' → Q (.ref q) S') : sp_Tellings_told_where K [.ref t, .tup (ps.map natD)] S Q E := by
  obtain ⟨l1, l2, l3, l4⟩ := L
  obtain ⟨ob, tb_⟩ := T
  unfold tlO at ob
  have s4 := P.s4
  have w4 := P.w4
  refine spB_mk rfl ?_
  unfold b_Tellings_told_where
  walk_at "dm"
  intro q hq
  refine lc_fm x.rows (tabD x j p) (fun r => agB r us ps) (fun r => told_d (x.tell j p r)) (S0 := S) put_same hq (Kp.refl.new hq) (Nat.le_trans (rowsW_le w4 s4) (by decide)) ?_ ?_
  · intro r hr S1 k1 nx hT hF
    refine ⟨k1 _ _ tb_, ?_⟩
    have ob1 := k1 _ _ ob
    have hrl := (rowsW_mem.mp hr).1
    unfold tabD
    walk_at "dm"
    refine agree_ok (fun i hi => by rw [hrl]; exact hps i hi) (fun i hi => by rw [W.len]; exact hps i hi) hl fun S2 k2 => ?_
    walk_at "dm"
    refine s_kLt (fun hc => ?_) fun hc => hF hc _ k2
    walk_at "dm"
    exact hT hc _ k2
  · intro S1 e1 k1
    refine ⟨k1 _ _ tb_, ?_⟩
    walk_at "dm"
    exact hQ q _ hq (by rw [e1, List.map_map]; rfl) k1
def fixB (x : Parts) (j : Nat) (p : Str × List Row) (us : List Str) (ps : List Nat) : Bool := (x.rows.filter fun r => agB r us ps).all fun r => decide (x.tell j p r = x.tell j p us)
theorem is_fixed_ok {t tb : Addr} {ps : List Nat} (L : FTl K) (P : PartsOk x slots pk wr) (W : WdOk x us) (T : Tl K x j p us t tb S) (hps : ∀ i ∈ ps, i < x.sources.length) (hl : ps.length ≤ 1000)
    (hQ : ∀ S', Kp S S' → Q (.bl (fixB x j p us ps)) S') : sp_Tellings_is_fixed K [.ref t, .tup (ps.map natD)] S Q E := by
  have L' := L
  have T' := T
  obtain ⟨l1, l2, l3, l4⟩ := L
  obtain ⟨ob, tb_⟩ := T
  unfold tlO at ob
  have s4 := P.s4
  have w4 := P.w4
  refine spB_mk rfl ?_
  unfold b_Tellings_is_fixed
  walk_at "dm"
  refine told_where_ok L' P W T' hps hl fun q S1 hq e1 k1 => ?_
  walk_at "dm"
  intro z hz
  have hlen : ((x.rows.filter fun r => agB r us ps).map (x.tell j p)).length ≤ 1000 := by
    rw [List.length_map]
    exact Nat.le_trans (List.length_filter_le _ _) (Nat.le_trans (rowsW_le w4 s4) (by decide))
  refine lc_m ((x.rows.filter fun r => agB r us ps).map (x.tell j p)) told_d (fun c => .bl (decide (c = x.tell j p us))) (S0 := S1) put_same hz (Kp.refl.new hz) hlen ?_ ?_
  · intro c hc S2 k2 nx hT
    refine ⟨k2 _ _ e1, ?_⟩
    have ob2 := k2 _ _ (k1 _ _ ob)
    walk_at "dm"
    refine s_eqTold ?_
    exact hT _ Kp.refl
  · intro S2 e2 k2
    refine ⟨k2 _ _ e1, ?_⟩
    walk_at "dm"
    refine s_all (bs := ((x.rows.filter fun r => agB r us ps).map (x.tell j p)).map fun c => decide (c = x.tell j p us)) (by rw [e2, List.map_map (g := D.bl)]; rfl) ?_
    have e : ((((x.rows.filter fun r => agB r us ps).map (x.tell j p)).map fun c => decide (c = x.tell j p us)).all id) = fixB x j p us ps := by
      unfold fixB
      rw [List.all_map, List.all_map]
      rfl
    rw [e]
    exact hQ _ (k1.trans k2)
end

set_option Elab.async false
set_option linter.all false
set_option maxRecDepth 100000
set_option maxHeartbeats 2000000
/-! P2v: others, moves, places_of. -/
open PySem PySem.Spec PyProof.Rows L2 DL
theorem rng_nat (n : Nat) : rngD 0 n = (List.range n).map natD := by
  unfold rngD
  refine List.map_congr_left fun i _ => ?_
  unfold natD
  simp
theorem rs_ints {S : Sto} {n : Nat} (ps : List Nat) : (ps.map natD).mapM (rs S n) = some (ps.map fun (i : Nat) => PyData.int (i : Int)) := by
  induction ps with
  | nil => rfl
  | cons z zs ih =>
    rw [List.map_cons, List.mapM_cons, ih]
    cases n <;> rfl
theorem rs_tupN {S : Sto} {fl : Bool} (ps : List Nat) : rs S 40 (.tp fl (ps.map natD)) = some (.tuple (ps.map fun (i : Nat) => PyData.int (i : Int))) := by
  show (List.mapM (rs S 39) (ps.map natD)).map PyData.tuple = _
  rw [rs_ints]
  rfl
theorem any_eqvN (ps : List Nat) (i : Nat) : ((ps.map fun (i : Nat) => PyData.int (i : Int)).any fun z => PyData.eqv z (.int i)) = decide (i ∈ ps) := by
  induction ps with
  | nil => rfl
  | cons z zs ih =>
    rw [List.map_cons, List.any_cons, ih]
    have e : PyData.eqv (.int (z : Int)) (.int (i : Int)) = decide (z = i) := by
      show decide ((z : Int) = (i : Int)) = _
      by_cases h : z = i
      · subst h; simp
      · rw [decide_eq_false h, decide_eq_false (by omega)]
    rw [e]
    by_cases h : z = i
    · subst h; simp
    · have h2 : ¬ i = z := fun q => h q.symm
      simp [h, h2]
theorem s_inN {g : Bool → Bool} {S : Sto} {Q : DQ} {ps : List Nat} {i : Nat} (h : Q (.bl (g (decide (i ∈ ps)))) S) : vInG g (.int (i : Int)) (.tup (ps.map natD)) S Q := by
  refine s_inT (p := .int i) (qs := ps.map fun (i : Nat) => PyData.int (i : Int)) rfl (rs_tupN ps) ?_
  rw [any_eqvN]
  exact h
def oth (n : Nat) (ps : List Nat) : List Nat := (List.range n).filter fun i => !decide (i ∈ ps)
theorem oth_lt {n : Nat} {ps : List Nat} : ∀ i ∈ oth n ps, i < n := fun i hi => List.mem_range.mp (List.mem_filter.mp hi).1
theorem oth_len {n : Nat} {ps : List Nat} : (oth n ps).length ≤ n := by
  unfold oth
  exact Nat.le_trans (List.length_filter_le _ _) (by simp)
theorem s_isTn {g : Bool → Bool} {S : Sto} {Q : DQ} {f : Bool} {xs : List D} (h : Q (.bl (g false)) S) : vIsG g (.tp f xs) .non S Q := h
theorem s_kMt1T {r : MM} {ms : AM} {env : Slo} {Q : DQ} {xs : List D} {S : Sto} (h : ms env S (kMt2 r (.tp true xs) Q)) : kMt1 okT r ms env Q (.tp true xs) S := ⟨rfl, h⟩
section
variable {K : PySem.W.Frag} {S : Sto} {o : Addr} {x : Parts} {slots us : List Str} {pk wr : Bool} {j : Nat} {p : Str × List Row} {Q : DQ} {E : XQ}
theorem others_ok {t tb : Addr} {ps : List Nat} (L : FTl K) (P : PartsOk x slots pk wr) (T : Tl K x j p us t tb S)
    (hQ : ∀ S', Kp S S' → Q (.tup ((oth x.sources.length ps).map natD)) S') : sp_Tellings_others K [.ref t, .tup (ps.map natD)] S Q E := by
  obtain ⟨l1, l2, l3, l4⟩ := L
  obtain ⟨ob, tb_⟩ := T
  unfold tlO at ob
  have s4 := P.s4
  refine spB_mk rfl ?_
  unfold b_Tellings_others
  walk_at "dm"
  refine s_kR1 (by omega) (by simp; omega) ?_
  walk_at "dm"
  rw [show (((x.sources.map D.str).length : Nat) : Int).toNat = x.sources.length by simp, rng_nat]
  intro q hq
  refine lc_fm (List.range x.sources.length) natD (fun i => !decide (i ∈ ps)) natD (S0 := S) put_same hq (Kp.refl.new hq) (by simp; omega) ?_ ?_
  · intro i hi S1 k1 nx hT hF
    refine ⟨trivial, ?_⟩
    unfold natD
    walk_at "dm"
    refine s_inN ?_
    walk_at "dm"
    refine s_kLt (fun hc => ?_) fun hc => hF hc _ Kp.refl
    walk_at "dm"
    exact hT hc _ Kp.refl
  · intro S1 e1 k1
    refine ⟨trivial, ?_⟩
    walk_at "dm"
    exact hQ _ k1
theorem moves_ok {t tb : Addr} {ps : List Nat} (L : FTl K) (P : PartsOk x slots pk wr) (W : WdOk x us) (T : Tl K x j p us t tb S)
    (hQ : ∀ S', Kp S S' → Q (.bl (!fixB x j p us (oth x.sources.length ps))) S') : sp_Tellings_moves K [.ref t, .tup (ps.map natD)] S Q E := by
  have T' := T
  have s4 := P.s4
  obtain ⟨ob, tb_⟩ := T
  unfold tlO at ob
  refine spB_mk rfl ?_
  unfold b_Tellings_moves
  walk_at "dm"
  refine others_ok L P T' fun S1 k1 => ?_
  have ob1 := k1 _ _ ob
  walk_at "dm"
  refine is_fixed_ok L P W (T'.kp k1) oth_lt (Nat.le_trans oth_len (by omega)) fun S2 k2 => ?_
  walk_at "dm"
  exact hQ _ (k1.trans k2)
/-! ### places_of -/
def Parts.src (x : Parts) (i : Nat) : Str := x.sources.getD i ""
def srcD (x : Parts) (i : Nat) : D := .str (x.src i)
theorem src_at {i : Nat} (h : i < x.sources.length) : x.sources[i]? = some (x.src i) := by
  unfold Parts.src
  rw [List.getD_eq_getElem?_getD, List.getElem?_eq_getElem h]
  rfl
theorem src_mem {i : Nat} (h : i < x.sources.length) : x.src i ∈ x.sources := List.mem_of_getElem? (src_at h)
def incB (js : List Nat) : Bool := (js.zip (js.drop 1)).all fun z => decide (z.1 < z.2)
theorem rs_src {S : Sto} : rs S 40 (.tp true (x.sources.map D.str)) = some (.tuple (x.sources.map PyData.str)) := rs_tupS _
theorem s_inS {g : Bool → Bool} {S : Sto} {Q : DQ} {z : Str} {zs : List Str} {fl : Bool} (h : Q (.bl (g (decide (z ∈ zs)))) S) : vInG g (.str z) (.tp fl (zs.map D.str)) S Q := by
  refine s_inT (p := .str z) (qs := zs.map PyData.str) rfl (rs_tupS zs) ?_
  rw [any_eqv]
  exact h
theorem cut1_nat (js : List Nat) : DL.cutD (js.map natD) (some 1) none = (js.drop 1).map natD := by
  unfold DL.cutD
  have e1 : HT.sIx (js.map natD).length 0 (some 1) = min 1 js.length := by rw [List.length_map]; rfl
  have e2 : HT.sIx (js.map natD).length (js.map natD).length none = js.length := by rw [List.length_map]; rfl
  rw [e1, e2]
  cases js with
  | nil => rfl
  | cons z zs =>
    have : min 1 (z :: zs).length = 1 := by simp
    rw [this, List.map_cons, List.drop_one, List.drop_one, List.tail_cons, List.tail_cons]
    rw [List.take_of_length_le (by simp)]
theorem zip_nat {js ks : List Nat} {i : Nat} {y : D} (h : (List.zipWith (fun x y => D.tup [x, y]) (js.map natD) (ks.map natD))[i]? = some y) : ∃ z, (js.zip ks)[i]? = some z ∧ y = .tup [.int z.1, .int z.2] := by
  rw [List.getElem?_zipWith] at h
  rw [List.getElem?_map, List.getElem?_map] at h
  cases e1 : js[i]? with
  | none => rw [e1] at h; simp at h
  | some s =>
    cases e2 : ks[i]? with
    | none => rw [e1, e2] at h; simp at h
    | some u =>
      rw [e1, e2] at h
      refine ⟨(s, u), ?_, ?_⟩
      · rw [List.getElem?_zip_eq_some]
        exact ⟨e1, e2⟩
      · simpa [natD] using h.symm
theorem all_take {α : Type} {f : α → Bool} {xs : List α} {i : Nat} {a : α} (h : xs[i]? = some a) (ha : f a = true) (hi : (xs.take i).all f = true) : (xs.take (i + 1)).all f = true := by
  rw [List.take_succ, h, List.all_append, hi]
  simp [ha]
theorem places_ok {js : List Nat} (G : FPr K) (P : PartsOk x slots pk wr) (eo : S o = some (progO K x)) (hjs : ∀ i ∈ js, i < x.sources.length) (hl : js.length ≤ 500)
    (hQ : ∀ S', Kp S S' → Q (if incB js = true then .tup (js.map natD) else .non) S') : sp_places_of K [.ref o, .tup (js.map (srcD x))] S Q E := by
  obtain ⟨f1, f2, f3, f4⟩ := G
  unfold progO at eo
  have nd : x.sources.Nodup := P.nn.left.left.2
  refine spB_mk rfl ?_
  unfold b_places_of
  walk_at "dm"
  with_reducible refine s_kLs (szl (by simp)) fun l h0 => ?_
  have k0 : Kp S (DL.put S l (.lst [])) := Kp.refl.new h0
  have e0 : DL.put S l (.lst []) l = some (.lst []) := put_same
  generalize DL.put S l (.lst []) = S1 at k0 e0 ⊢
  walk_at "dmn"
  with_reducible refine s_seq ?_
  walk_at "dmn"
  refine for_ix (fun i env S' => ∃ (x3 : Option D), env = [some (.ref o), some (.tup (js.map (srcD x))), some (.ref l), x3, none, none] ∧ S' l = some (.lst ((js.take i).map natD)) ∧ Kp S S') _ 0 ⟨_, rfl, e0, k0⟩ ?_ ?_
  · rintro i y _ S2 hy ⟨x3, rfl, e2, k2⟩ nx hnx
    rw [Nat.zero_add] at e2 hnx
    rw [List.getElem?_map] at hy
    cases ej : js[i]? with
    | none => rw [ej] at hy; cases hy
    | some m =>
      rw [ej] at hy
      cases hy
      have hm := hjs m (List.mem_of_getElem? ej)
      have hi : i < js.length := (List.getElem?_eq_some_iff.mp ej).1
      have eo2 := k2 _ _ eo
      refine ⟨trivial, ?_⟩
      unfold srcD
      walk_at "dm"
      refine s_inS ?_
      rw [decide_eq_true (src_mem hm)]
      walk_at "dm"
      refine s_kMt1T ?_
      walk_at "dm"
      refine s_idx (zs := x.sources) (src_at hm) (fun k hk ek => ?_) ?_
      · exact absurd (nodup_at nd ek (src_at hm)) (by omega)
      walk_at "dm"
      with_reducible refine s_app e2 (szlt (by simp; omega)) ?_
      walk_at "dm"
      refine hnx _ _ ⟨_, rfl, ?_, k2.wr h0⟩
      rw [put_same, List.take_succ, ej]
      simp [natD]
  rintro _ S2 ⟨x3, rfl, e2, k2⟩
  rw [Nat.zero_add, List.length_map, List.take_length] at e2
  refine ⟨trivial, ?_⟩
  walk_at "dm"
  refine s_slL e2 fun q hq => ?_
  rw [cut1_nat]
  have lq : l ≠ q := fun z => by subst z; rw [e2] at hq; cases hq
  have k3 := k2.new (o := .lst ((js.drop 1).map natD)) hq
  have e3 := (put_ne (S := S2) (o := .lst ((js.drop 1).map natD)) lq).trans e2
  have e4 : DL.put S2 q (.lst ((js.drop 1).map natD)) q = some (.lst ((js.drop 1).map natD)) := put_same
  generalize DL.put S2 q (.lst ((js.drop 1).map natD)) = S3 at k3 e3 e4 ⊢
  walk_at "dm"
  refine for_ix (fun i env S' => ∃ (x4 x5 : Option D), env = [some (.ref o), some (.tup (js.map (srcD x))), some (.ref l), x3, x4, x5] ∧ ((js.zip (js.drop 1)).take i).all (fun z => decide (z.1 < z.2)) = true ∧ S' = S3) _ 0 ⟨_, _, rfl, rfl, rfl⟩ ?_ ?_
  · rintro i y _ _ hy ⟨x4, x5, rfl, ha, rfl⟩ nx hnx
    rw [Nat.zero_add] at ha hnx
    obtain ⟨z, hz, rfl⟩ := zip_nat hy
    refine ⟨⟨e3, e4⟩, ?_⟩
    walk_at "dm"
    by_cases hlt : z.1 < z.2
    · rw [decide_eq_false (by omega)]
      walk_at "dm"
      exact hnx _ _ ⟨_, _, rfl, all_take hz (by simpa using hlt) ha, rfl⟩
    · rw [decide_eq_true (by omega)]
      walk_at "dm"
      have e : incB js = false := by
        cases h : incB js with
        | false => rfl
        | true =>
          unfold incB at h
          have := List.all_eq_true.mp h z (List.mem_of_getElem? hz)
          exact absurd (of_decide_eq_true this) hlt
      have h := hQ _ k3
      rw [if_neg (by rw [e]; simp)] at h
      exact h
  · rintro _ _ ⟨x4, x5, rfl, ha, rfl⟩
    refine ⟨⟨e3, e4⟩, ?_⟩
    have e : incB js = true := by
      unfold incB
      rw [Nat.zero_add] at ha
      rw [List.take_of_length_le (by simp)] at ha
      exact ha
    walk_at "dm"
    have h := hQ _ k3
    rw [if_pos e] at h
    exact h
/-- what is no set of sources -/
inductive NoSet (x : Parts) (S : Sto) : D → Prop
  | ty {d : D} {a : String} (e : tyD S d = some a) (h : isiT a "tuple" = some false) : NoSet x S d
  | el {d : D} {rest : List D} {a : String} (e : tyD S d = some a) (h : isiT a "str" = some false) : NoSet x S (.tup (d :: rest))
  | na {z : Str} {rest : List D} (h : z ∉ x.sources) : NoSet x S (.tup (.str z :: rest))
  | inc {js : List Nat} (hjs : ∀ i ∈ js, i < x.sources.length) (hl : js.length ≤ 500) (h : incB js = false) : NoSet x S (.tup (js.map (srcD x)))
theorem tyD_kp {S S' : Sto} {d : D} {a : String} (k : Kp S S') (e : tyD S d = some a) : tyD S' d = some a := by
  cases d <;> try exact e
  rename_i b
  unfold tyD at e ⊢
  dsimp only at e ⊢
  cases h : S b with
  | none => rw [h] at e; simp at e
  | some ob => rw [k _ _ h]; rw [h] at e; exact e
theorem NoSet.kp {S S' : Sto} {d : D} (h : NoSet x S d) (k : Kp S S') : NoSet x S' d := by
  cases h with
  | ty e h => exact .ty (tyD_kp k e) h
  | el e h => exact .el (tyD_kp k e) h
  | na h => exact .na h
  | inc a b c => exact .inc a b c
theorem places_no {d : D} (G : FPr K) (P : PartsOk x slots pk wr) (eo : S o = some (progO K x)) (N : NoSet x S d) (hQ : ∀ S', Kp S S' → Q .non S') : sp_places_of K [.ref o, d] S Q E := by
  have G' := G
  have eo' := eo
  obtain ⟨f1, f2, f3, f4⟩ := G
  unfold progO at eo
  cases N with
  | ty e h =>
    refine spB_mk rfl ?_
    unfold b_places_of
    walk_at "dm"
    refine s_isi e h ?_
    walk_at "dm"
    exact hQ _ Kp.refl
  | @el d rest a e h =>
    refine spB_mk rfl ?_
    unfold b_places_of
    walk_at "dm"
    with_reducible refine s_kLs (szl (by simp)) fun l h0 => ?_
    have k0 : Kp S (DL.put S l (.lst [])) := Kp.refl.new h0
    generalize DL.put S l (.lst []) = S1 at k0 ⊢
    walk_at "dmn"
    with_reducible refine s_seq ?_
    walk_at "dmn"
    refine ⟨trivial, ?_⟩
    walk_at "dm"
    refine s_isi (tyD_kp k0 e) h ?_
    walk_at "dm"
    exact hQ _ k0
  | @na z rest h =>
    refine spB_mk rfl ?_
    unfold b_places_of
    walk_at "dm"
    with_reducible refine s_kLs (szl (by simp)) fun l h0 => ?_
    have k0 : Kp S (DL.put S l (.lst [])) := Kp.refl.new h0
    generalize DL.put S l (.lst []) = S1 at k0 ⊢
    have eo1 := k0 _ _ eo
    walk_at "dmn"
    with_reducible refine s_seq ?_
    walk_at "dmn"
    refine ⟨trivial, ?_⟩
    walk_at "dm"
    refine s_inS ?_
    rw [decide_eq_false h]
    walk_at "dm"
    exact hQ _ k0
  | inc a b c => exact places_ok G' P eo' a b fun S' k => by rw [if_neg (by rw [c]; simp)]; exact hQ _ k
end

set_option Elab.async false
set_option linter.all false
set_option maxRecDepth 100000
set_option maxHeartbeats 2000000
/-! P2w: is_reason, is_lever, lever_words. -/
open PySem PySem.Spec PyProof.Rows L2 DL
theorem find_at {α : Type} {xs : List α} {f : α → Bool} {i : Nat} {a : α} (h : xs[i]? = some a) (ha : f a = true) (hn : ∀ b ∈ xs.take i, f b = false) : xs.find? f = some a := by
  have hi : i < xs.length := (List.getElem?_eq_some_iff.mp h).1
  have e : xs = xs.take i ++ a :: xs.drop (i + 1) := by
    have e1 : xs.drop i = a :: xs.drop (i + 1) := by
      rw [List.drop_eq_getElem_cons hi]
      rw [List.getElem?_eq_getElem hi] at h
      rw [Option.some.inj h]
    rw [← e1, List.take_append_drop]
  rw [e, List.find?_append, List.find?_eq_none.mpr (fun b hb => by rw [hn b hb]; simp)]
  simp [ha]
theorem find_no {α : Type} {xs : List α} {f : α → Bool} (hn : ∀ b ∈ xs, f b = false) : xs.find? f = none := List.find?_eq_none.mpr fun b hb => by rw [hn b hb]; simp
theorem take_no {α : Type} {xs : List α} {f : α → Bool} {i : Nat} {a : α} (h : xs[i]? = some a) (ha : f a = false) (hn : ∀ b ∈ xs.take i, f b = false) : ∀ b ∈ xs.take (i + 1), f b = false := by
  intro b hb
  rw [List.take_succ, h] at hb
  rcases List.mem_append.mp hb with q | q
  · exact hn b q
  · have : b = a := by simpa using q
    rw [this]; exact ha
def levC (x : Parts) (j : Nat) (p : Str × List Row) (us : List Str) (ps : List Nat) (r : List Str) : Bool := !decide (x.tell j p r = x.tell j p us) && agB r us (oth x.sources.length ps)
def levO (x : Parts) (j : Nat) (p : Str × List Row) (us : List Str) (ps : List Nat) : Option (List Str) := x.rows.find? (levC x j p us ps)
def rowD : Option (List Str) → D
  | some r => tupS r
  | none => .non
section
variable {K : PySem.W.Frag} {S : Sto} {o : Addr} {x : Parts} {slots us : List Str} {pk wr : Bool} {j : Nat} {p : Str × List Row} {Q : DQ} {E : XQ}
theorem is_reason_ok {js : List Nat} (G : FPr K) (F : FTr K) (L : FTl K) (P : PartsOk x slots pk wr) (eo : S o = some (progO K x)) (W : WdOk x us) (hp : (x.derived ++ x.effects)[j]? = some p) (hjs : ∀ i ∈ js, i < x.sources.length) (hl : js.length ≤ 500) (hi : incB js = true)
    (hQ : ∀ S', Kp S S' → Q (.bl (fixB x j p us js)) S') : sp_is_reason K [.ref o, tupS us, .str p.1, .tup (js.map (srcD x))] S Q E := by
  refine spB_mk rfl ?_
  unfold b_is_reason
  walk_at "dm"
  intro t ht
  refine tl_init_ok G F L P eo W hp ht fun tb S1 k1 T => ⟨rfl, ?_⟩
  walk_at "dm"
  refine places_ok G P (k1 _ _ eo) hjs hl fun S2 k2 => ?_
  rw [if_pos hi]
  have T2 := T.kp k2
  have ob := T2.ob
  unfold tlO at ob
  walk_at "dm"
  refine s_isTn ?_
  walk_at "dm"
  refine is_fixed_ok L P W T2 hjs (by omega) fun S3 k3 => ?_
  exact hQ _ ((k1.trans k2).trans k3)
theorem is_reason_no {d : D} (G : FPr K) (F : FTr K) (L : FTl K) (P : PartsOk x slots pk wr) (eo : S o = some (progO K x)) (W : WdOk x us) (hp : (x.derived ++ x.effects)[j]? = some p) (N : NoSet x S d)
    (hQ : ∀ S', Kp S S' → Q (.bl false) S') : sp_is_reason K [.ref o, tupS us, .str p.1, d] S Q E := by
  refine spB_mk rfl ?_
  unfold b_is_reason
  walk_at "dm"
  intro t ht
  refine tl_init_ok G F L P eo W hp ht fun tb S1 k1 T => ⟨rfl, ?_⟩
  walk_at "dm"
  refine places_no G P (k1 _ _ eo) (N.kp k1) fun S2 k2 => ?_
  walk_at "dm"
  exact hQ _ (k1.trans k2)
theorem is_lever_ok {js : List Nat} (G : FPr K) (F : FTr K) (L : FTl K) (P : PartsOk x slots pk wr) (eo : S o = some (progO K x)) (W : WdOk x us) (hp : (x.derived ++ x.effects)[j]? = some p) (hjs : ∀ i ∈ js, i < x.sources.length) (hl : js.length ≤ 500) (hi : incB js = true)
    (hQ : ∀ S', Kp S S' → Q (.bl (!fixB x j p us (oth x.sources.length js))) S') : sp_is_lever K [.ref o, tupS us, .str p.1, .tup (js.map (srcD x))] S Q E := by
  refine spB_mk rfl ?_
  unfold b_is_lever
  walk_at "dm"
  intro t ht
  refine tl_init_ok G F L P eo W hp ht fun tb S1 k1 T => ⟨rfl, ?_⟩
  walk_at "dm"
  refine places_ok G P (k1 _ _ eo) hjs hl fun S2 k2 => ?_
  rw [if_pos hi]
  have T2 := T.kp k2
  have ob := T2.ob
  unfold tlO at ob
  walk_at "dm"
  refine s_isTn ?_
  walk_at "dm"
  refine moves_ok L P W T2 fun S3 k3 => ?_
  exact hQ _ ((k1.trans k2).trans k3)
theorem is_lever_no {d : D} (G : FPr K) (F : FTr K) (L : FTl K) (P : PartsOk x slots pk wr) (eo : S o = some (progO K x)) (W : WdOk x us) (hp : (x.derived ++ x.effects)[j]? = some p) (N : NoSet x S d)
    (hQ : ∀ S', Kp S S' → Q (.bl false) S') : sp_is_lever K [.ref o, tupS us, .str p.1, d] S Q E := by
  refine spB_mk rfl ?_
  unfold b_is_lever
  walk_at "dm"
  intro t ht
  refine tl_init_ok G F L P eo W hp ht fun tb S1 k1 T => ⟨rfl, ?_⟩
  walk_at "dm"
  refine places_no G P (k1 _ _ eo) (N.kp k1) fun S2 k2 => ?_
  walk_at "dm"
  exact hQ _ (k1.trans k2)
theorem checked_ok {js : List Nat} (G : FPr K) (P : PartsOk x slots pk wr) (eo : S o = some (progO K x)) (hjs : ∀ i ∈ js, i < x.sources.length) (hl : js.length ≤ 500) (hi : incB js = true)
    (hQ : ∀ S', Kp S S' → Q (.tup (js.map natD)) S') : sp_checked_places K [.ref o, .tup (js.map (srcD x))] S Q E := by
  refine spB_mk rfl ?_
  unfold b_checked_places
  walk_at "dm"
  refine places_ok G P eo hjs hl fun S1 k1 => ?_
  rw [if_pos hi]
  walk_at "dm"
  refine s_isTn ?_
  walk_at "dm"
  exact hQ _ k1
theorem checked_no {d : D} (G : FPr K) (P : PartsOk x slots pk wr) (eo : S o = some (progO K x)) (N : NoSet x S d)
    (hE : ∀ S', Kp S S' → E (.ref (He.ga K "InvalidSources")) [("sources", d)] S') : sp_checked_places K [.ref o, d] S Q E := by
  refine spB_mk rfl ?_
  unfold b_checked_places
  walk_at "dm"
  refine places_no G P eo N fun S1 k1 => ?_
  walk_at "dm"
  with_reducible refine s_raise ?_
  walk_at "dm"
  with_reducible refine s_kRa ?_
  exact hE _ k1
theorem lever_words_no {d : D} (G : FPr K) (F : FTr K) (L : FTl K) (P : PartsOk x slots pk wr) (eo : S o = some (progO K x)) (W : WdOk x us) (hp : (x.derived ++ x.effects)[j]? = some p) (N : NoSet x S d)
    (hE : ∀ S', Kp S S' → E (.ref (He.ga K "InvalidSources")) [("sources", d)] S') : sp_lever_words K [.ref o, tupS us, .str p.1, d] S Q E := by
  refine spB_mk rfl ?_
  unfold b_lever_words
  walk_at "dm"
  intro t ht
  refine tl_init_ok G F L P eo W hp ht fun tb S1 k1 T => ⟨rfl, ?_⟩
  have ob := T.ob
  unfold tlO at ob
  walk_at "dm"
  refine checked_no G P (k1 _ _ eo) (N.kp k1) fun S2 k2 => ?_
  exact hE _ (k1.trans k2)
theorem lever_words_ok {js : List Nat} (G : FPr K) (F : FTr K) (L : FTl K) (P : PartsOk x slots pk wr) (eo : S o = some (progO K x)) (W : WdOk x us) (hp : (x.derived ++ x.effects)[j]? = some p) (hjs : ∀ i ∈ js, i < x.sources.length) (hl : js.length ≤ 500) (hi : incB js = true)
    (hQ : ∀ S', Kp S S' → Q (rowD (levO x j p us js)) S') : sp_lever_words K [.ref o, tupS us, .str p.1, .tup (js.map (srcD x))] S Q E := by
  have s4 := P.s4
  have L' := L
  obtain ⟨l1, l2, l3, l4⟩ := L
  refine spB_mk rfl ?_
  unfold b_lever_words
  walk_at "dm"
  intro t ht
  refine tl_init_ok G F L' P eo W hp ht fun tb S1 k1 T => ⟨rfl, ?_⟩
  have ob := T.ob
  unfold tlO at ob
  walk_at "dm"
  refine checked_ok G P (k1 _ _ eo) hjs hl hi fun S2 k2 => ?_
  have ob2 := k2 _ _ ob
  walk_at "dm"
  refine others_ok L' P (T.kp k2) fun S3 k3 => ?_
  have T3 := (T.kp k2).kp k3
  have ob3 := k3 _ _ ob2
  have k13 := (k1.trans k2).trans k3
  have tb3 := T3.tb_
  walk_at "dm"
  refine for_ix (fun i env S' => ∃ (x6 x7 : Option D), env = [some (.ref o), some (tupS us), some (.str p.1), some (.tup (js.map (srcD x))), some (.ref t), some (.tup ((oth x.sources.length js).map natD)), x6, x7] ∧ (∀ r ∈ x.rows.take i, levC x j p us js r = false) ∧ Kp S3 S') _ 0 ⟨_, _, rfl, fun r hr => by simp at hr, Kp.refl⟩ ?_ ?_
  · rintro i y _ S4 hy ⟨x6, x7, rfl, hn, k4⟩ nx hnx
    rw [Nat.zero_add] at hn hnx
    rw [List.getElem?_map] at hy
    cases er : x.rows[i]? with
    | none => rw [er] at hy; cases hy
    | some r =>
      rw [er] at hy
      cases hy
      have hr := List.mem_of_getElem? er
      have hrl := (rowsW_mem.mp hr).1
      have ob4 := k4 _ _ ob3
      refine ⟨k4 _ _ tb3, ?_⟩
      unfold tabD
      walk_at "dm"
      refine s_eqTold ?_
      by_cases he : x.tell j p r = x.tell j p us
      · rw [decide_eq_true he]
        walk_at "dm"
        exact hnx _ _ ⟨_, _, rfl, take_no er (by unfold levC; rw [decide_eq_true he]; rfl) hn, k4⟩
      · rw [decide_eq_false he]
        walk_at "dm"
        refine agree_ok (fun i hi => by rw [hrl]; exact oth_lt i hi) (fun i hi => by rw [W.len]; exact oth_lt i hi) (Nat.le_trans oth_len (by omega)) fun S5 k5 => ?_
        walk_at "dm"
        refine s_ifB (fun hc => ?_) fun hc => ?_
        · have h := hQ _ ((k13.trans k4).trans k5)
          unfold levO at h
          rw [find_at er (by unfold levC; rw [decide_eq_false he, hc]; rfl) hn] at h
          walk_at "dm"
          exact h
        · walk_at "dm"
          exact hnx _ _ ⟨_, _, rfl, take_no er (by unfold levC; rw [hc]; simp) hn, k4.trans k5⟩
  · rintro _ S4 ⟨x6, x7, rfl, hn, k4⟩
    rw [Nat.zero_add, List.length_map, List.take_length] at hn
    refine ⟨k4 _ _ tb3, ?_⟩
    walk_at "dm"
    have h := hQ _ (k13.trans k4)
    unfold levO at h
    rw [find_no hn] at h
    exact h
end

set_option Elab.async false
set_option linter.all false
set_option maxRecDepth 100000
set_option maxHeartbeats 2000000
/-! P2x: the law's own small functions. -/
open PySem PySem.Spec PyProof.Rows L2 DL
theorem s_ext {a b : Addr} {xs ys : List D} {S : Sto} {Q : DQ} (e1 : S a = some (.lst xs)) (e2 : S b = some (.lst ys)) (hl : xs.length + ys.length ≤ sizeLine) (h : Q .non (DL.put S a (.lst (xs ++ ys)))) : rExt (.ref a) [.ref b] S Q := by
  unfold rExt
  simp only [e1, e2]
  exact ⟨hl, h⟩
theorem agB_comm (us vs : List Str) (ps : List Nat) : agB us vs ps = agB vs us ps := by
  unfold agB
  congr 1
  funext i
  by_cases h : us[i]? = vs[i]?
  · rw [decide_eq_true h, decide_eq_true h.symm]
  · rw [decide_eq_false h, decide_eq_false fun e => h e.symm]
theorem len_zero {α : Type} (f : α → Bool) : ∀ xs : List α, decide ((((xs.filter fun a => !f a).length : Nat) : Int) = 0) = xs.all f
  | [] => rfl
  | x :: xs => by
    rw [List.all_cons, List.filter_cons]
    cases h : f x with
    | true => simpa using len_zero f xs
    | false => simp; omega
theorem len_zero2 {α : Type} (a c : α → Bool) (xs : List α) : decide ((((xs.filter fun r => a r && !c r).length : Nat) : Int) = 0) = (xs.filter a).all c := by
  have e : (fun r => a r && !c r) = fun r => !(!a r || c r) := by
    funext r
    cases a r <;> cases c r <;> rfl
  rw [e, len_zero (fun r => !a r || c r) xs, List.all_filter]
section
variable {K : PySem.W.Frag} {S : Sto} {o : Addr} {x : Parts} {slots us : List Str} {pk wr : Bool} {j : Nat} {p : Str × List Row} {Q : DQ} {E : XQ}
theorem keeps_ok {us vs : List Str} {ps : List Nat} (h1 : ∀ i ∈ ps, i < us.length) (h2 : ∀ i ∈ ps, i < vs.length) (hl : ps.length ≤ 1000) (hQ : ∀ S', Kp S S' → Q (.bl (agB us vs ps)) S') : sp__law_keeps K [tupS us, tupS vs, .tup (ps.map natD)] S Q E := by
  refine spB_mk rfl ?_
  unfold b__law_keeps tupS
  walk_at "dm"
  intro q hq
  refine lc_fm ps natD (fun i => !decide (us[i]? = vs[i]?)) natD (S0 := S) put_same hq (Kp.refl.new hq) hl ?_ ?_
  · intro i hi S1 k1 nx hT hF
    refine ⟨trivial, ?_⟩
    have i1 := h1 i hi
    have i2 := h2 i hi
    have a1 := at_str i1
    have a2 := at_str i2
    unfold natD
    walk_at "dm"
    have e : decide (us[i] = vs[i]) = decide (us[i]? = vs[i]?) := by
      rw [List.getElem?_eq_getElem i1, List.getElem?_eq_getElem i2]
      simp
    rw [e]
    refine s_kLt (fun hc => ?_) fun hc => hF hc _ Kp.refl
    walk_at "dm"
    exact hT hc _ Kp.refl
  · intro S1 e1 k1
    refine ⟨trivial, ?_⟩
    walk_at "dm"
    rw [List.length_map, len_zero (fun i => decide (us[i]? = vs[i]?)) ps]
    exact hQ _ k1
theorem rest_ok {ps : List Nat} {n : Nat} (hn : n ≤ 100) (hQ : ∀ S', Kp S S' → Q (.tup ((oth n ps).map natD)) S') : sp__law_rest_of K [.tup (ps.map natD), .int (n : Nat)] S Q E := by
  refine spB_mk rfl ?_
  unfold b__law_rest_of
  walk_at "dm"
  refine s_kR1 (by omega) (by omega) ?_
  walk_at "dm"
  rw [show ((n : Nat) : Int).toNat = n by simp, rng_nat]
  intro q hq
  refine lc_fm (List.range n) natD (fun i => !decide (i ∈ ps)) natD (S0 := S) put_same hq (Kp.refl.new hq) (by simp; omega) ?_ ?_
  · intro i hi S1 k1 nx hT hF
    refine ⟨trivial, ?_⟩
    unfold natD
    walk_at "dm"
    refine s_inN ?_
    walk_at "dm"
    refine s_kLt (fun hc => ?_) fun hc => hF hc _ Kp.refl
    walk_at "dm"
    exact hT hc _ Kp.refl
  · intro S1 e1 k1
    refine ⟨trivial, ?_⟩
    walk_at "dm"
    exact hQ _ k1
theorem xd_eq (x : Parts) : x.d = .tup [.tup (x.words.map D.str), .tp true (x.sources.map D.str), .tup (x.derived.map pairD), .tup (x.effects.map pairD)] := rfl
theorem named_ok {js : List Nat} (hjs : ∀ i ∈ js, i < x.sources.length) (hl : js.length ≤ 500) (hQ : ∀ S', Kp S S' → Q (.tup (js.map (srcD x))) S') : sp__law_named K [x.d, .tup (js.map natD)] S Q E := by
  rw [xd_eq]
  refine spB_mk rfl ?_
  unfold b__law_named
  walk_at "dm"
  intro q hq
  refine lc_m js natD (srcD x) (S0 := S) put_same hq (Kp.refl.new hq) (by omega) ?_ ?_
  · intro i hi S1 k1 nx hT
    refine ⟨trivial, ?_⟩
    have a1 : L2.atI (x.sources.map D.str) (i : Int) = some (srcD x i) := atI_nat (by rw [List.getElem?_map, src_at (hjs i hi)]; rfl)
    unfold natD
    walk_at "dm"
    exact hT _ Kp.refl
  · intro S1 e1 k1
    refine ⟨trivial, ?_⟩
    walk_at "dm"
    exact hQ _ k1
theorem flag_ok {b : Bool} (hQ : Q (.bl true) S) : sp__law_flag K [.bl b, .bl b] S Q E := by
  refine spB_mk rfl ?_
  unfold b__law_flag
  walk_at "dm"
  refine s_isi (ty := "bool") (c := true) rfl rfl ?_
  walk_at "dm"
  rw [decide_eq_true rfl]
  exact hQ
theorem program_ok (F : FBc K) (G : FPr K) (P : PartsOk x slots pk wr) (hQ : ∀ o S', S o = none → S' o = some (progO K x) → Kp S S' → Q (.ref o) S') : sp__law_program K [x.d] S Q E := by
  rw [xd_eq]
  refine spB_mk rfl ?_
  unfold b__law_program
  walk_at "dm"
  intro o ho
  refine prog_init_ok F G P put_same fun S7 fr7 eo7 => ⟨rfl, ?_⟩
  refine hQ o _ ho eo7 fun b ob hb => ?_
  have hbo : b ≠ o := fun q => by subst q; rw [ho] at hb; cases hb
  exact fr7 b ob hbo ((put_ne hbo).trans hb)
theorem law_body_ok {ns : List Int} {a l : Addr} (h : StA ns a l S) (P : PartsOk x slots pk wr) (hb : 0 < (x.derived ++ x.effects).length) (hQ : ∀ (j : Nat) (p : Str × List Row) S', (x.derived ++ x.effects)[j]? = some p → StA ns a l S' → Fr a S S' → Q (.str p.1) S') : sp__law_body K [.ref a, x.d] S Q E := by
  have d6 := P.d6
  have e4 := P.e4
  rw [xd_eq]
  refine spB_mk rfl ?_
  unfold b__law_body
  walk_at "dm"
  with_reducible refine s_addT (szl (by simp; omega)) ?_
  rw [← List.map_append]
  walk_at "dm"
  refine draw_ok h (by simp at hb ⊢; omega) (log_small (by omega) (by simp; omega)) fun r S1 r0 r1 h1 f1 => ?_
  obtain ⟨i, rfl⟩ := Int.eq_ofNat_of_zero_le r0
  have hi : i < (x.derived ++ x.effects).length := by simp at r1 ⊢; omega
  have ei : L2.atI ((x.derived ++ x.effects).map pairD) (i : Int) = some (pairD (x.derived ++ x.effects)[i]) := atI_nat (by rw [List.getElem?_map, List.getElem?_eq_getElem hi]; rfl)
  walk_at "dm"
  unfold pairD
  walk_at "dm"
  exact hQ i _ _ (List.getElem?_eq_getElem hi) h1 f1
/-! ### rows of words, by the law -/
theorem rows_words_ok (P : PartsOk x slots pk wr) (hQ : ∀ q S', S q = none → S' q = some (.lst (x.rows.map tupS)) → Kp S S' → Q (.ref q) S') : sp__law_rows_of_words K [x.d] S Q E := by
  have s4 := P.s4
  have w4 := P.w4
  rw [xd_eq]
  refine spB_mk rfl ?_
  unfold b__law_rows_of_words
  walk_at "dm"
  with_reducible refine s_kTp (szl (by simp)) ?_
  walk_at "dm"
  with_reducible refine s_kLs (szl (by simp)) fun l0 h0 => ?_
  have k0 : Kp S (DL.put S l0 (.lst [.tup []])) := Kp.refl.new h0
  have e0 : DL.put S l0 (.lst [.tup []]) l0 = some (.lst ((rowsW x.words 0).map tupS)) := put_same
  generalize DL.put S l0 (.lst [.tup []]) = S1 at k0 e0 ⊢
  walk_at "dmn"
  with_reducible refine s_seq ?_
  walk_at "dmn"
  refine for_ix (fun i env S' => ∃ (l : Addr) (x2 x3 x4 : Option D), env = [some (.tup [.tup (x.words.map D.str), .tp true (x.sources.map D.str), .tup (x.derived.map pairD), .tup (x.effects.map pairD)]), some (.ref l), x2, x3, x4, none] ∧ S' l = some (.lst ((rowsW x.words i).map tupS)) ∧ S l = none ∧ Kp S S') _ 0 ⟨l0, _, _, _, rfl, e0, h0, k0⟩ ?_ ?_
  · rintro i y _ S2 hy ⟨l, x2, x3, x4, rfl, e2, hl, k2⟩ nx hnx
    rw [Nat.zero_add] at e2 hnx
    have hi : i < x.sources.length := by
      have := (List.getElem?_eq_some_iff.mp hy).1
      simpa using this
    have hle := rowsW_le (ws := x.words) w4 (n := i + 1) (by omega)
    have hle0 := rowsW_le (ws := x.words) w4 (n := i) (by omega)
    refine ⟨trivial, ?_⟩
    refine s_gNm ?_
    walk_at "dm"
    with_reducible refine s_kLs (szl (by simp)) fun l1 h1 => ?_
    have ll : l ≠ l1 := fun z => by subst z; rw [e2] at h1; cases h1
    have l1S : S l1 = none := k2.none_ h1
    have k3 := k2.new (o := .lst []) h1
    have e3 := (put_ne (S := S2) (o := .lst []) ll).trans e2
    have f3 : DL.put S2 l1 (.lst []) l1 = some (.lst []) := put_same
    generalize DL.put S2 l1 (.lst []) = S3 at k3 e3 f3 ⊢
    walk_at "dmn"
    with_reducible refine s_seq ?_
    walk_at "dmn"
    refine for_ix (fun m env S' => ∃ (x4 : Option D), env = [some (.tup [.tup (x.words.map D.str), .tp true (x.sources.map D.str), .tup (x.derived.map pairD), .tup (x.effects.map pairD)]), some (.ref l), some y, some (.ref l1), x4, none] ∧ S' l = some (.lst ((rowsW x.words i).map tupS)) ∧ S' l1 = some (.lst ((((rowsW x.words i).take m).flatMap fun r => x.words.map fun w => r ++ [w]).map tupS)) ∧ Kp S S') _ 0 ⟨_, rfl, e3, f3, k3⟩ ?_ ?_
    · rintro m z _ S4 hz ⟨x4, rfl, e4, f4, k4⟩ nx2 hnx2
      rw [Nat.zero_add] at f4 hnx2
      rw [List.getElem?_map] at hz
      cases er : (rowsW x.words i)[m]? with
      | none => rw [er] at hz; cases hz
      | some r =>
        rw [er] at hz
        cases hz
        have hm : m < (rowsW x.words i).length := (List.getElem?_eq_some_iff.mp er).1
        have hr := (rowsW_mem.mp (List.mem_of_getElem? er)).1
        have hfl : ∀ k, (((rowsW x.words i).take k).flatMap fun r => x.words.map fun w => r ++ [w]).length ≤ 1000 := fun k => by
          rw [flat_len (k := x.words.length) (fun a => by simp)]
          have h1 : ((rowsW x.words i).take k).length ≤ (rowsW x.words i).length := by simp; omega
          rw [rowsW_len, Nat.pow_succ, ← rowsW_len] at hle
          exact Nat.le_trans (Nat.mul_le_mul_right _ h1) (by omega)
        have et : (((rowsW x.words i).take (m + 1)).flatMap fun r => x.words.map fun w => r ++ [w]) = (((rowsW x.words i).take m).flatMap fun r => x.words.map fun w => r ++ [w]) ++ x.words.map fun w => r ++ [w] := by
          rw [List.take_succ, er, List.flatMap_append]
          simp
        refine ⟨e4, ?_⟩
        unfold tupS
        walk_at "dm"
        intro q hq
        have qS : S q = none := k4.none_ hq
        have ql : l ≠ q := fun z => by subst z; rw [e4] at hq; cases hq
        have ql1 : l1 ≠ q := fun z => by subst z; rw [f4] at hq; cases hq
        refine lc_m x.words D.str (fun w => tupS (r ++ [w])) (S0 := S4) put_same hq (Kp.refl.new hq) (by omega) ?_ ?_
        · intro w hw S5 k5 nx3 hT
          refine ⟨trivial, ?_⟩
          walk_at "dm"
          with_reducible refine s_kTp (szl (by simp)) ?_
          walk_at "dm"
          with_reducible refine s_addT (szl (by simp; omega)) ?_
          have h := hT _ (Kp.refl (S := S5))
          unfold tupS at h
          rw [List.map_append] at h
          exact h
        · intro S5 e5 k5
          refine ⟨trivial, ?_⟩
          walk_at "dm"
          have f5 := k5 _ _ f4
          have hn := hfl (m + 1)
          rw [et, List.length_append] at hn
          refine s_ext f5 e5 (szl (by simp at hn ⊢; omega)) ?_
          walk_at "dm"
          refine hnx2 _ _ ⟨_, rfl, ?_, ?_, (k4.trans k5).wr l1S⟩
          · rw [put_ne ll]; exact k5 _ _ e4
          · rw [put_same, et, List.map_append]
            simp only [List.map_map]
            rfl
    · rintro _ S4 ⟨x4, rfl, e4, f4, k4⟩
      rw [Nat.zero_add, List.length_map, List.take_length] at f4
      refine ⟨e4, ?_⟩
      walk_at "dm"
      exact hnx _ _ ⟨l1, _, _, _, rfl, f4, l1S, k4⟩
  · rintro _ S2 ⟨l, x2, x3, x4, rfl, e2, hl, k2⟩
    rw [Nat.zero_add, List.length_map] at e2
    refine ⟨trivial, ?_⟩
    walk_at "dm"
    exact hQ l _ hl e2 k2
end

set_option Elab.async false
set_option linter.all false
set_option maxRecDepth 100000
set_option maxHeartbeats 2000000
/-! P2y: the law's own telling, its table. -/
open PySem PySem.Spec PyProof.Rows L2 DL
mutual
theorem row_der {T : Str → Str} {h : Shp} (hd : h.der = true) : ∀ (x : Row) (r : RS), x.ok h → (x.run T r).says = r.says ∧ (x.run T r).written = r.written
  | .read c s, r, _ => by rw [Row.run]; exact ⟨rfl, rfl⟩
  | .peek c s, r, _ => by rw [Row.run]; exact ⟨rfl, rfl⟩
  | .put c s, r, _ => by rw [Row.run]; exact ⟨rfl, rfl⟩
  | .give s, r, _ => by rw [Row.run]; exact ⟨rfl, rfl⟩
  | .say s, r, ok => by rw [Row.ok] at ok; rw [hd] at ok; cases ok.1
  | .write c s, r, ok => by rw [Row.ok] at ok; rw [hd] at ok; cases ok.1
  | .ite s w y n, r, ok => by
    rw [Row.ok] at ok
    rw [Row.run]
    split
    · exact rows_der hd y r ok.2.2.1
    · exact rows_der hd n r ok.2.2.2
theorem rows_der {T : Str → Str} {h : Shp} (hd : h.der = true) : ∀ (rs : List Row) (r : RS), rowsOk h rs → (rowsRun T rs r).says = r.says ∧ (rowsRun T rs r).written = r.written
  | [], r, _ => by rw [rowsRun]; exact ⟨rfl, rfl⟩
  | x :: rs, r, ok => by
    rw [rowsOk] at ok
    rw [rowsRun]
    split
    · exact ⟨rfl, rfl⟩
    · have a := row_der (T := T) hd x r ok.1
      have b := rows_der (T := T) hd rs (x.run T r) ok.2
      exact ⟨b.1.trans a.1, b.2.trans a.2⟩
end
theorem filter_one : ∀ {ps : List (Str × List Row)} {j : Nat} {p : Str × List Row}, (ps.map (·.1)).Nodup → ps[j]? = some p → ps.filter (fun z => decide (z.1 = p.1)) = [p]
  | [], _, _, _, h => by simp at h
  | a :: ps, 0, p, nd, h => by
    simp at h
    subst h
    rw [List.map_cons, List.nodup_cons] at nd
    rw [List.filter_cons, if_pos (by simp), List.filter_eq_nil_iff.mpr]
    intro z hz
    have : z.1 ≠ a.1 := fun e => nd.1 (e ▸ List.mem_map_of_mem hz)
    simpa using this
  | a :: ps, j + 1, p, nd, h => by
    rw [List.map_cons, List.nodup_cons] at nd
    have h' : ps[j]? = some p := by simpa using h
    have ha : a.1 ≠ p.1 := fun e => nd.1 (e ▸ List.mem_map_of_mem (List.mem_of_getElem? h'))
    rw [List.filter_cons, if_neg (by simpa using ha)]
    exact filter_one nd.2 h'
theorem bodies_nd {x : Parts} {slots : List Str} {pk wr : Bool} (P : PartsOk x slots pk wr) : ((x.derived ++ x.effects).map (·.1)).Nodup := by
  have := P.nn.2
  rw [List.append_assoc, ← List.map_append] at this
  exact (List.nodup_append.mp this).2.1
section
variable {K : PySem.W.Frag} {S : Sto} {o : Addr} {x : Parts} {slots us : List Str} {pk wr : Bool} {j : Nat} {p : Str × List Row} {Q : DQ} {E : XQ}
theorem eff_mem (P : PartsOk x slots pk wr) (hp : (x.derived ++ x.effects)[j]? = some p) : (p.1 ∈ x.effects.map (·.1)) ↔ ¬ j < x.derived.length := by
  have nd := bodies_nd P
  have hj := (List.getElem?_eq_some_iff.mp hp).1
  constructor
  · intro hm hlt
    obtain ⟨q, hq, e⟩ := List.mem_map.mp hm
    obtain ⟨k, hk⟩ := List.getElem?_of_mem hq
    have h2 : (x.derived ++ x.effects)[x.derived.length + k]? = some q := by
      rw [List.getElem?_append_right (by omega)]
      rw [show x.derived.length + k - x.derived.length = k by omega]
      exact hk
    have := nodup_at nd (names_at hp) (by rw [names_at h2, e])
    omega
  · intro hge
    rw [List.getElem?_append_right (by omega)] at hp
    exact List.mem_map_of_mem (List.mem_of_getElem? hp)
theorem own_ok (P : PartsOk x slots pk wr) (W : WdOk x us) (hp : (x.derived ++ x.effects)[j]? = some p) (hQ : ∀ S', Kp S S' → Q (told_d (x.tell j p us)) S') : sp__law_own_telling K [x.d, tupS us, .str p.1] S Q E := by
  have hdf := df_at P.w2
  have d6 := P.d6
  have e4' := P.e4
  obtain ⟨h, bo, hc⟩ := body_all P hp
  have bc := bo.cnt
  have bd := bo.dep
  rw [xd_eq]
  refine spB_mk rfl ?_
  unfold b__law_own_telling
  walk_at "dm"
  refine law_true_ok (x := x) P W (fun S' k i u hu Q h => by unfold tupS; exact s_ixT (atI_nat (by rw [List.getElem?_map, hu]; rfl)) h) fun tk tkv S3 htk e3 r3 k3 => ?_
  walk_at "dm"
  refine s_disp fun rc hrc => ?_
  have k4 : Kp S3 (DL.put S3 rc (.dic [])) := Kp.refl.new hrc
  have e4 : DL.put S3 rc (.dic []) rc = some (.dic []) := put_same
  generalize DL.put S3 rc (.dic []) = S4 at k4 e4 ⊢
  walk_at "dm"
  with_reducible refine s_kLs (szl (by simp)) fun na hna => ?_
  have nar : na ≠ rc := fun z => by subst z; rw [e4] at hna; cases hna
  have naS := k4.none_ hna
  have k5 := k4.new (o := .lst []) hna
  have a5 := (put_ne (S := S4) (o := .lst []) nar.symm).trans e4
  have b5 : DL.put S4 na (.lst []) na = some (.lst []) := put_same
  generalize DL.put S4 na (.lst []) = S5 at k5 a5 b5 ⊢
  walk_at "dm"
  with_reducible refine s_kLs (szl (by simp)) fun pa hpa => ?_
  have par : pa ≠ rc := fun z => by subst z; rw [a5] at hpa; cases hpa
  have pan : pa ≠ na := fun z => by subst z; rw [b5] at hpa; cases hpa
  have paS := k5.none_ hpa
  have k6 := k5.new (o := .lst []) hpa
  have a6 := (put_ne (S := S5) (o := .lst []) par.symm).trans a5
  have b6 := (put_ne (S := S5) (o := .lst []) pan.symm).trans b5
  have c6 : DL.put S5 pa (.lst []) pa = some (.lst []) := put_same
  generalize DL.put S5 pa (.lst []) = S6 at k6 a6 b6 c6 ⊢
  walk_at "dm"
  with_reducible refine s_kLs (szl (by simp)) fun sy hsy => ?_
  have syr : sy ≠ rc := fun z => by subst z; rw [a6] at hsy; cases hsy
  have syn : sy ≠ na := fun z => by subst z; rw [b6] at hsy; cases hsy
  have syp : sy ≠ pa := fun z => by subst z; rw [c6] at hsy; cases hsy
  have syS := k6.none_ hsy
  have k7 := k6.new (o := .lst []) hsy
  have a7 := (put_ne (S := S6) (o := .lst []) syr.symm).trans a6
  have b7 := (put_ne (S := S6) (o := .lst []) syn.symm).trans b6
  have c7 := (put_ne (S := S6) (o := .lst []) syp.symm).trans c6
  have d7 : DL.put S6 sy (.lst []) sy = some (.lst []) := put_same
  generalize DL.put S6 sy (.lst []) = S7 at k7 a7 b7 c7 d7 ⊢
  walk_at "dm"
  with_reducible refine s_kLs (szl (by simp)) fun wr' hwr => ?_
  have wrr : wr' ≠ rc := fun z => by subst z; rw [a7] at hwr; cases hwr
  have wrn : wr' ≠ na := fun z => by subst z; rw [b7] at hwr; cases hwr
  have wrp : wr' ≠ pa := fun z => by subst z; rw [c7] at hwr; cases hwr
  have wry : wr' ≠ sy := fun z => by subst z; rw [d7] at hwr; cases hwr
  have wrS := k7.none_ hwr
  have k8 := k7.new (o := .lst []) hwr
  have a8 := (put_ne (S := S7) (o := .lst []) wrr.symm).trans a7
  have b8 := (put_ne (S := S7) (o := .lst []) wrn.symm).trans b7
  have c8 := (put_ne (S := S7) (o := .lst []) wrp.symm).trans c7
  have d8 := (put_ne (S := S7) (o := .lst []) wry.symm).trans d7
  have e8 : DL.put S7 wr' (.lst []) wr' = some (.lst []) := put_same
  generalize DL.put S7 wr' (.lst []) = S8 at k8 a8 b8 c8 d8 e8 ⊢
  clear k4 k5 k6 k7 a5 a6 a7 b5 b6 b7 c6 c7 d7 e4
  walk_at "dm"
  refine s_kDi (kvs := [(.inr "read", .ref na), (.inr "peek", .ref pa), (.inr "say", .ref sy), (.inr "write", .ref wr')]) rfl a8 (by simp) ?_
  have k9 := k8.wr (o := .dic (mergeD [] [(.inr "read", .ref na), (.inr "peek", .ref pa), (.inr "say", .ref sy), (.inr "write", .ref wr')])) hrc
  have a9 : DL.put S8 rc (.dic (mergeD [] [(.inr "read", .ref na), (.inr "peek", .ref pa), (.inr "say", .ref sy), (.inr "write", .ref wr')])) rc = some (.dic (mergeD [] [(.inr "read", .ref na), (.inr "peek", .ref pa), (.inr "say", .ref sy), (.inr "write", .ref wr')])) := put_same
  have pp : ∀ b o, b ≠ rc → S8 b = some o → DL.put S8 rc (.dic (mergeD [] [(.inr "read", .ref na), (.inr "peek", .ref pa), (.inr "say", .ref sy), (.inr "write", .ref wr')])) b = some o := fun b o h1 h2 => (put_ne h1).trans h2
  have b9 := pp _ _ nar b8
  have c9 := pp _ _ par c8
  have d9 := pp _ _ syr d8
  have e9 := pp _ _ wrr e8
  clear pp
  generalize DL.put S8 rc (.dic (mergeD [] [(.inr "read", .ref na), (.inr "peek", .ref pa), (.inr "say", .ref sy), (.inr "write", .ref wr')])) = S9 at k9 a9 b9 c9 d9 e9 ⊢
  clear k8 a8 b8 c8 d8 e8
  walk_at "dm"
  with_reducible refine s_addT (szl (by simp; omega)) ?_
  rw [← List.map_append]
  walk_at "dm"
  intro q hq
  refine lc_fm (x.derived ++ x.effects) pairD (fun z => decide (z.1 = p.1)) (fun z => .tup (rowsD z.2)) (S0 := S9) put_same hq (Kp.refl.new hq) (by simp; omega) ?_ ?_
  · intro z hz T1 t1 nx hT hF
    refine ⟨trivial, ?_⟩
    unfold pairD
    walk_at "dm"
    refine s_kLt (fun hc => ?_) fun hc => hF hc _ Kp.refl
    walk_at "dm"
    exact hT hc _ Kp.refl
  intro SA eA kA
  rw [filter_one (bodies_nd P) hp] at eA
  refine ⟨trivial, ?_⟩
  have aA := kA _ _ a9
  have bA := kA _ _ b9
  have cA := kA _ _ c9
  have dA := kA _ _ d9
  have eA' := kA _ _ e9
  have k3A := k9.trans kA
  clear a9 b9 c9 d9 e9 k9 kA
  walk_at "dm"
  with_reducible refine s_dnew fun sa hsa => ?_
  have sar : sa ≠ rc := fun z => by subst z; rw [aA] at hsa; cases hsa
  have san : sa ≠ na := fun z => by subst z; rw [bA] at hsa; cases hsa
  have sap : sa ≠ pa := fun z => by subst z; rw [cA] at hsa; cases hsa
  have say : sa ≠ sy := fun z => by subst z; rw [dA] at hsa; cases hsa
  have saw : sa ≠ wr' := fun z => by subst z; rw [eA'] at hsa; cases hsa
  have saS := k3A.none_ hsa
  have dd : Rd S3 rc sa na pa sy wr' := ⟨hrc, saS, naS, paS, syS, wrS, sar.symm, nar.symm, par.symm, syr.symm, wrr.symm, san, sap, say, saw, pan.symm, syn.symm, wrn.symm, syp.symm, wrp.symm, wry.symm⟩
  have LR : Lr S3 sa rc na pa sy wr' x.df (r0 x.df) 0 (DL.put SA sa (.dic [])) := by
    refine ⟨⟨[], put_same, fun z => rfl, Nat.le_refl _⟩, ⟨_, (put_ne sar.symm).trans aA, ?_, ?_, ?_, ?_⟩, (put_ne san.symm).trans bA, (put_ne sap.symm).trans cA, (put_ne say.symm).trans dA, (put_ne saw.symm).trans eA', Nat.le_refl _, Nat.le_refl _, Nat.le_refl _, Nat.le_refl _, k3A.new hsa⟩ <;>
      (simp only [mergeD, List.foldl_cons, List.foldl_nil]; repeat (first | rw [valD_put, if_pos (by with_reducible rfl)] | rw [valD_put, if_neg (by decide +kernel)]))
  generalize DL.put SA sa (.dic []) = SB at LR ⊢
  walk_at "dm"
  refine true_rows_ok (h := h) dd e3 (T := x.tab us) (fun c hc' => r3 c (hc c hc')) 6 p.2 (r := r0 x.df) rfl LR bo.ok (by omega) (by omega) fun SC LC => ?_
  have k3C := k3.trans LC.kp
  have ySC := LC.sy'
  have wSC := LC.wr'
  obtain ⟨rkv, eRC, _, _, vsay, vwr⟩ := LC.rc_
  have hb3 := LC.b3
  have hb4 := LC.b4
  walk_at "dm"
  intro q2 hq2
  refine lc_m x.effects pairD (fun z => .str z.1) (S0 := SC) put_same hq2 (Kp.refl.new hq2) (by omega) ?_ ?_
  · intro z hz T1 t1 nx hT
    refine ⟨trivial, ?_⟩
    unfold pairD
    walk_at "dm"
    exact hT _ Kp.refl
  intro SD eD kD'
  refine ⟨trivial, ?_⟩
  have eD2 : SD q2 = some (.lst ((x.effects.map (·.1)).map D.str)) := by rw [eD, List.map_map]; rfl
  have ySD := kD' _ _ ySC
  have wSD := kD' _ _ wSC
  have eRD := kD' _ _ eRC
  walk_at "dm"
  refine s_inL (p := .str p.1) eD2 rfl (rs_lstS eD2) ?_
  rw [any_eqv]
  have hfin := hQ _ (k3C.trans kD')
  unfold told_d Parts.tell at hfin
  by_cases hj : j < x.derived.length
  · rw [decide_eq_false (fun hm => (eff_mem P hp).mp hm hj)]
    have hp' := hp
    rw [List.getElem?_append_left hj] at hp'
    have nd := rows_der (T := x.tab us) (h := ⟨true, false, false, x.words, x.sources, x.sources ++ (x.derived.take j).map (·.1), slots⟩) rfl p.2 (r0 x.df) (P.der j p hp').ok
    rw [nd.1, nd.2, if_pos hj] at hfin
    walk_at "dm"
    cases hg : (rowsRun (x.tab us) p.2 (r0 x.df)).given with
    | none =>
      rw [hg] at hfin
      unfold givD
      walk_at "dm"
      with_reducible refine s_kTp (szl (by simp)) ?_
      walk_at "dm"
      with_reducible refine s_kTp (szl (by simp)) ?_
      walk_at "dm"
      with_reducible refine s_kTp (szl (by simp)) ?_
      exact hfin
    | some z =>
      rw [hg] at hfin
      unfold givD
      walk_at "dm"
      with_reducible refine s_isSN ?_
      walk_at "dm"
      with_reducible refine s_kTp (szl (by simp)) ?_
      walk_at "dm"
      with_reducible refine s_kTp (szl (by simp)) ?_
      walk_at "dm"
      with_reducible refine s_kTp (szl (by simp)) ?_
      exact hfin
  · rw [decide_eq_true ((eff_mem P hp).mpr hj)]
    rw [if_neg hj] at hfin
    walk_at "dm"
    with_reducible refine s_kTp (szl (by simp)) ?_
    exact hfin
/-! ### the table -/
def keyR (r : List Str) : List Key := r.map Sum.inr
theorem keyR_inj {r s : List Str} (h : keyR r = keyR s) : r = s := by
  unfold keyR at h
  exact List.map_inj_right (fun a b e => Sum.inr.inj e) |>.mp h
def tabK (x : Parts) (j : Nat) (p : Str × List Row) (rs : List (List Str)) : List (List Key × D) := rs.map fun r => (keyR r, told_d (x.tell j p r))
theorem keys_tupS (r : List Str) : keysD (tupS r) = some (keyR r) := by
  show (r.map D.str).mapM keyD = some (r.map Sum.inr)
  induction r with
  | nil => rfl
  | cons z zs ih =>
    rw [List.map_cons, List.mapM_cons, ih]
    rfl
theorem rowsW_nd {ws : List Str} (h : ws.Nodup) : ∀ n, (rowsW ws n).Nodup
  | 0 => by simp [rowsW]
  | n + 1 => by
    rw [rowsW]
    refine List.pairwise_flatMap.mpr ⟨fun r _ => ?_, ?_⟩
    · rw [List.pairwise_map]
      exact h.imp fun hne e => hne (by simpa using e)
    · refine (rowsW_nd h n).imp fun {a b} hne u hu v hv e => ?_
      obtain ⟨w, _, rfl⟩ := List.mem_map.mp hu
      obtain ⟨w', _, rfl⟩ := List.mem_map.mp hv
      exact hne (List.append_inj_left' e rfl)
theorem putD_new {κ : Type} [DecidableEq κ] {kvs : List (κ × D)} {k : κ} {v : D} (h : ∀ kv ∈ kvs, kv.1 ≠ k) : putD kvs k v = kvs ++ [(k, v)] := by
  unfold putD
  rw [if_neg]
  intro e
  obtain ⟨kv, hm, he⟩ := List.any_eq_true.mp e
  exact h kv hm (of_decide_eq_true he)
theorem table_of_ok (P : PartsOk x slots pk wr) (hp : (x.derived ++ x.effects)[j]? = some p) (hQ : ∀ t S', S t = none → S' t = some (.dit (tabK x j p x.rows)) → Kp S S' → Q (.ref t) S') : sp__law_table_of K [x.d, .str p.1] S Q E := by
  have s4 := P.s4
  have w4 := P.w4
  have nd : x.rows.Nodup := rowsW_nd P.ww.2 _
  have hle : x.rows.length ≤ 256 := rowsW_le w4 s4
  refine spB_mk rfl ?_
  unfold b__law_table_of
  walk_at "dm"
  intro t ht
  have k0 : Kp S (DL.put S t (.dit [])) := Kp.refl.new ht
  have e0 : DL.put S t (.dit []) t = some (.dit []) := put_same
  generalize DL.put S t (.dit []) = S1 at k0 e0 ⊢
  walk_at "dmn"
  with_reducible refine s_seq ?_
  walk_at "dmn"
  refine rows_words_ok P fun q S2 hq e2 k2 => ?_
  have tq : t ≠ q := fun z => by subst z; rw [e0] at hq; cases hq
  have qS : S q = none := k0.none_ hq
  walk_at "dmn"
  refine for_ix (fun i env S' => ∃ (x3 : Option D), env = [some x.d, some (.str p.1), some (.ref t), x3] ∧ S' t = some (.dit (tabK x j p (x.rows.take i))) ∧ S' q = some (.lst (x.rows.map tupS)) ∧ Kp S S') _ 0 ⟨_, rfl, k2 _ _ e0, e2, k0.trans k2⟩ ?_ ?_
  · rintro i y _ S3 hy ⟨x3, rfl, e3, f3, k3⟩ nx hnx
    rw [Nat.zero_add] at e3 hnx
    rw [List.getElem?_map] at hy
    cases er : x.rows[i]? with
    | none => rw [er] at hy; cases hy
    | some r =>
      rw [er] at hy
      cases hy
      have hi : i < x.rows.length := (List.getElem?_eq_some_iff.mp er).1
      have hr := List.mem_of_getElem? er
      refine ⟨f3, ?_⟩
      walk_at "dm"
      refine own_ok P (wd_row P hr) hp fun S4 k4 => ?_
      walk_at "dm"
      refine s_kGT2 (keys_tupS r) (k4 _ _ e3) (szlt (by unfold tabK; simp; omega)) ?_
      refine hnx _ _ ⟨_, rfl, ?_, ?_, (k3.trans k4).wr ht⟩
      · rw [put_same, putD_new, List.take_succ, er]
        · unfold tabK
          simp
        · intro kv hm e
          unfold tabK at hm
          obtain ⟨s, hs, rfl⟩ := List.mem_map.mp hm
          have es : s = r := keyR_inj e
          subst es
          obtain ⟨k, hk⟩ := List.getElem?_of_mem hs
          have hk' : k < i := by
            have := (List.getElem?_eq_some_iff.mp hk).1
            simp at this
            omega
          rw [List.getElem?_take, if_pos hk'] at hk
          obtain ⟨a1, b1⟩ := List.getElem?_eq_some_iff.mp hk
          obtain ⟨a2, b2⟩ := List.getElem?_eq_some_iff.mp er
          have := (List.getElem_inj nd).mp (b1.trans b2.symm)
          omega
      · rw [put_ne tq.symm]
        exact k4 _ _ f3
  · rintro _ S3 ⟨x3, rfl, e3, f3, k3⟩
    rw [Nat.zero_add, List.length_map, List.take_length] at e3
    refine ⟨f3, ?_⟩
    walk_at "dm"
    exact hQ t _ ht e3 k3
/-! ### the table read -/
def rodT (x : Parts) (j : Nat) (p : Str × List Row) : D := .rod (x.rows.map keyR) (x.rows.map fun r => told_d (x.tell j p r))
theorem rod_keys (x : Parts) : ((x.rows.map keyR).map fun k => D.tup (k.map kD)) = x.rows.map tupS := by
  rw [List.map_map]
  refine List.map_congr_left fun r _ => ?_
  unfold tupS keyR
  simp only [Function.comp, List.map_map]
  rfl
theorem val_tab {rs : List (List Str)} {r : List Str} (h : r ∈ rs) : valD (tabK x j p rs) (keyR r) = some (told_d (x.tell j p r)) := by
  induction rs with
  | nil => simp at h
  | cons s rs ih =>
    unfold tabK valD
    rw [List.map_cons, List.find?_cons]
    by_cases e : keyR s = keyR r
    · have := keyR_inj e
      subst this
      simp
    · simp only [decide_eq_false e]
      rcases List.mem_cons.mp h with z | z
      · exact absurd (congrArg keyR z.symm) e
      · exact ih z
theorem s_ixTab {S : Sto} {Q : DQ} {r : List Str} (h : r ∈ x.rows) (hq : Q (told_d (x.tell j p r)) S) : vIxR (rodT x j p) (tupS r) S Q := by
  unfold rodT
  refine s_ixRod (keys_tupS r) (e := told_d (x.tell j p r)) ?_ hq
  rw [List.zip_map']
  exact val_tab h
theorem row_of (W : WdOk x us) : us ∈ x.rows := rowsW_mem.mpr ⟨W.len, W.mem⟩
theorem law_fixed_ok {ps : List Nat} (P : PartsOk x slots pk wr) (W : WdOk x us) (hps : ∀ i ∈ ps, i < x.sources.length) (hl : ps.length ≤ 1000)
    (hQ : ∀ S', Kp S S' → Q (.bl (fixB x j p us ps)) S') : sp__law_fixed K [rodT x j p, tupS us, .tup (ps.map natD)] S Q E := by
  have s4 := P.s4
  have w4 := P.w4
  have hle : x.rows.length ≤ 256 := rowsW_le w4 s4
  refine spB_mk rfl ?_
  unfold b__law_fixed
  walk_at "dm"
  unfold rodT
  walk_at "dm"
  rw [rod_keys]
  intro q hq
  refine lc_fm x.rows tupS (fun r => agB r us ps && !decide (x.tell j p r = x.tell j p us)) tupS (S0 := S) put_same hq (Kp.refl.new hq) (by omega) ?_ ?_
  · intro r hr S1 k1 nx hT hF
    refine ⟨trivial, ?_⟩
    have hrl := (rowsW_mem.mp hr).1
    walk_at "dm"
    refine keeps_ok (fun i hi => by rw [W.len]; exact hps i hi) (fun i hi => by rw [hrl]; exact hps i hi) hl fun S2 k2 => ?_
    rw [agB_comm] 
    walk_at "dm"
    cases ha : agB r us ps with
    | false =>
      walk_at "dm"
      refine s_kLt (fun hc => by cases hc) fun hc => hF (by rw [ha]; rfl) _ k2
    | true =>
      walk_at "dm"
      refine s_ixTab hr ?_
      walk_at "dm"
      refine s_ixTab (row_of W) ?_
      walk_at "dm"
      refine s_eqTold ?_
      walk_at "dm"
      refine s_kLt (fun hc => ?_) fun hc => hF (by rw [ha, hc]; rfl) _ k2
      walk_at "dm"
      exact hT (by rw [ha, hc]; rfl) _ k2
  · intro S1 e1 k1
    refine ⟨trivial, ?_⟩
    walk_at "dm"
    rw [List.length_map, len_zero2 (fun r => agB r us ps) (fun r => decide (x.tell j p r = x.tell j p us)) x.rows]
    exact hQ _ k1
theorem lev_eq {ps : List Nat} : (fun r => agB r us (oth x.sources.length ps) && !decide (x.tell j p r = x.tell j p us)) = levC x j p us ps := by
  funext r
  unfold levC
  rw [Bool.and_comm]
theorem first_lever_ok {ps : List Nat} (P : PartsOk x slots pk wr) (W : WdOk x us)
    (hQ : ∀ S', Kp S S' → Q (rowD (levO x j p us ps)) S') : sp__law_first_lever K [rodT x j p, tupS us, .tup (ps.map natD)] S Q E := by
  have s4 := P.s4
  have w4 := P.w4
  have hul : us.length = x.sources.length := W.len
  refine spB_mk rfl ?_
  unfold b__law_first_lever
  unfold rodT
  walk_at "dm"
  rw [rod_keys]
  refine for_ix (fun i env S' => ∃ (x3 : Option D), env = [some (rodT x j p), some (tupS us), some (.tup (ps.map natD)), x3] ∧ (∀ r ∈ x.rows.take i, levC x j p us ps r = false) ∧ Kp S S') _ 0 ⟨_, rfl, fun r hr => by simp at hr, Kp.refl⟩ ?_ ?_
  · rintro i y _ S1 hy ⟨x3, rfl, hn, k1⟩ nx hnx
    rw [Nat.zero_add] at hn hnx
    rw [List.getElem?_map] at hy
    cases er : x.rows[i]? with
    | none => rw [er] at hy; cases hy
    | some r =>
      rw [er] at hy
      cases hy
      have hr := List.mem_of_getElem? er
      have hrl := (rowsW_mem.mp hr).1
      refine ⟨trivial, ?_⟩
      walk_at "dm"
      unfold tupS
      walk_at "dm"
      rw [List.length_map]
      rw [hul]
      refine rest_ok (by omega) fun S2 k2 => ?_
      walk_at "dm"
      refine keeps_ok (us := us) (vs := r) (fun i hi => by rw [hul]; exact oth_lt i hi) (fun i hi => by rw [hrl]; exact oth_lt i hi) (Nat.le_trans oth_len (by omega)) fun S3 k3 => ?_
      rw [agB_comm]
      have k13 := (k1.trans k2).trans k3
      walk_at "dm"
      cases ha : agB r us (oth x.sources.length ps) with
      | false =>
        walk_at "dm"
        exact hnx _ _ ⟨_, rfl, take_no er (by rw [← lev_eq]; simp only [ha]; rfl) hn, k13⟩
      | true =>
        walk_at "dm"
        refine s_ixTab hr ?_
        walk_at "dm"
        refine s_ixTab (row_of W) ?_
        walk_at "dm"
        refine s_eqTold ?_
        by_cases he : x.tell j p r = x.tell j p us
        · rw [decide_eq_true he]
          walk_at "dm"
          exact hnx _ _ ⟨_, rfl, take_no er (by rw [← lev_eq]; simp [he]) hn, k13⟩
        · rw [decide_eq_false he]
          walk_at "dm"
          have h := hQ _ k13
          unfold levO at h
          rw [find_at er (by rw [← lev_eq]; simp [ha, he]) hn] at h
          exact h
  · rintro _ S1 ⟨x3, rfl, hn, k1⟩
    rw [Nat.zero_add, List.length_map, List.take_length] at hn
    refine ⟨trivial, ?_⟩
    walk_at "dm"
    have h := hQ _ k1
    unfold levO at h
    rw [find_no hn] at h
    exact h
end

set_option Elab.async false
set_option linter.all false
set_option maxRecDepth 100000
set_option maxHeartbeats 2000000
/-! P2z: all sets of places; a program that has a body. -/
open PySem PySem.Spec PyProof.Rows L2 DL
def tupN (ps : List Nat) : D := .tup (ps.map natD)
structure SetOk (n : Nat) (ps : List Nat) : Prop where
  lt : ∀ i ∈ ps, i < n
  inc : incB ps = true
  len : ps.length ≤ 4
theorem inc_cons (a b : Nat) (l : List Nat) : incB (a :: b :: l) = (decide (a < b) && incB (b :: l)) := by simp [incB]
theorem inc_snoc : ∀ (ps : List Nat) (k : Nat), incB ps = true → (∀ m, ps.getLast? = some m → m < k) → incB (ps ++ [k]) = true
  | [], k, _, _ => by simp [incB]
  | [a], k, _, h => by
    have := h a rfl
    show incB (a :: k :: []) = true
    rw [inc_cons, decide_eq_true this]
    simp [incB]
  | a :: b :: l, k, hi, h => by
    rw [inc_cons, Bool.and_eq_true] at hi
    show incB (a :: b :: (l ++ [k])) = true
    rw [inc_cons, hi.1]
    have := inc_snoc (b :: l) k hi.2 fun m hm => h m (by rw [List.getLast?_cons_cons]; exact hm)
    exact this
def kR2 (R : List D → (Sto → Prop) → Sto → Prop) : List D → Sto → Prop := fun ds S1 => match ds with
  | [.int i, .int j] => (-(2 ^ 62) ≤ i ∧ i < 2 ^ 62 ∧ -(2 ^ 62) ≤ j ∧ j < 2 ^ 62) ∧ R (rngD i (j - i).toNat) (fun _ => True) S1
  | _ => False
theorem s_iR2 {ms : AM} {env : Slo} {S : Sto} {R : List D → (Sto → Prop) → Sto → Prop} (h : ms env S (kR2 R)) : iRange2 ms env S R := h
theorem s_kR2 {i j : Int} {S : Sto} {R : List D → (Sto → Prop) → Sto → Prop} (h0 : -(2 ^ 62) ≤ i ∧ i < 2 ^ 62 ∧ -(2 ^ 62) ≤ j ∧ j < 2 ^ 62) (h : R (rngD i (j - i).toNat) (fun _ => True) S) : kR2 R [.int i, .int j] S := ⟨h0, h⟩
instance i_iR2 {ms : AM} {env : Slo} {S : Sto} {R : List D → (Sto → Prop) → Sto → Prop} : St (iRange2 ms env S R) (ms env S (kR2 R)) := ⟨fun h => s_iR2 h⟩
theorem cut_all (xs : List D) : DL.cutD xs none none = xs := whole_cut xs none none ⟨rfl, rfl⟩
theorem rng_at1 {lo : Int} {n i : Nat} {x : D} (h : (rngD lo n)[i]? = some x) : x = .int (lo + i) ∧ i < n := by
  unfold rngD at h
  rw [List.getElem?_map] at h
  cases e : (List.range n)[i]? with
  | none => rw [e] at h; cases h
  | some j =>
    rw [e] at h
    obtain ⟨h1, h2⟩ := List.getElem?_eq_some_iff.mp e
    rw [List.getElem_range] at h2
    subst h2
    cases h
    exact ⟨rfl, by simpa using h1⟩
theorem last_at {ps : List Nat} {m : Nat} (h : ps.getLast? = some m) : L2.atI (ps.map natD) (-1) = some (.int m) := by
  have hne : ps ≠ [] := fun e => by rw [e] at h; cases h
  have hl : 0 < ps.length := List.length_pos_iff.mpr hne
  unfold L2.atI
  rw [show L2.ixN (ps.map natD).length (-1) = some (ps.length - 1) by
    unfold L2.ixN
    rw [List.length_map, if_neg (by omega)]
    rw [if_pos (by omega)]
    congr 1
    omega]
  show (ps.map natD)[ps.length - 1]? = _
  rw [List.getElem?_map, ← List.getLast?_eq_getElem?, h]
  rfl
section
variable {K : PySem.W.Frag} {S : Sto} {Q : DQ} {E : XQ}
theorem sets_ok {n : Nat} (hn : n ≤ 4) (hQ : ∀ q (sets : List (List Nat)) S', S q = none → S' q = some (.lst (sets.map tupN)) → (∀ ps ∈ sets, SetOk n ps) → 0 < sets.length → sets.length ≤ 700 → Kp S S' → Q (.ref q) S') : sp__law_sets K [.int (n : Nat)] S Q E := by
  refine spB_mk rfl ?_
  unfold b__law_sets
  walk_at "dm"
  with_reducible refine s_kTp (szl (by simp)) ?_
  walk_at "dm"
  with_reducible refine s_kLs (szl (by simp)) fun l h0 => ?_
  have k0 : Kp S (DL.put S l (.lst [.tup []])) := Kp.refl.new h0
  have e0 : DL.put S l (.lst [.tup []]) l = some (.lst (([[]] : List (List Nat)).map tupN)) := put_same
  generalize DL.put S l (.lst [.tup []]) = S1 at k0 e0 ⊢
  walk_at "dmn"
  with_reducible refine s_seq ?_
  walk_at "dmn"
  refine s_kR2 ⟨by omega, by omega, by omega, by omega⟩ ?_
  walk_at "dmn"
  rw [show ((n : Int) + 1 - 1).toNat = n by omega]
  refine for_ix (fun i env S' => ∃ (x2 x3 x4 : Option D) (sets : List (List Nat)), env = [some (.int (n : Nat)), some (.ref l), x2, x3, x4, none] ∧ S' l = some (.lst (sets.map tupN)) ∧ (∀ ps ∈ sets, SetOk n ps) ∧ 0 < sets.length ∧ sets.length ≤ 5 ^ i ∧ Kp S S') _ 0 ⟨_, _, _, [[]], rfl, e0, fun ps hp => by simp at hp; subst hp; exact ⟨fun i hi => by simp at hi, rfl, by simp⟩, by simp, by simp, k0⟩ ?_ ?_
  · rintro i y _ S2 hy ⟨x2, x3, x4, sets, rfl, e2, ok2, p2, l2, k2⟩ nx hnx
    rw [Nat.zero_add] at l2 hnx
    obtain ⟨rfl, hi⟩ := rng_at1 hy
    have h5 : 5 ^ i ≤ 125 := Nat.le_trans (Nat.pow_le_pow_right (by decide) (show i ≤ 3 by omega)) (by decide)
    refine ⟨trivial, ?_⟩
    walk_at "dm"
    refine s_slL e2 fun q hq => ?_
    rw [cut_all]
    have lq : l ≠ q := fun z => by subst z; rw [e2] at hq; cases hq
    have qS : S q = none := k2.none_ hq
    have k3 := k2.new (o := .lst (sets.map tupN)) hq
    have e3 := (put_ne (S := S2) (o := .lst (sets.map tupN)) lq).trans e2
    have f3 : DL.put S2 q (.lst (sets.map tupN)) q = some (.lst (sets.map tupN)) := put_same
    generalize DL.put S2 q (.lst (sets.map tupN)) = S3 at k3 e3 f3 ⊢
    walk_at "dm"
    refine for_ix (fun m env S' => ∃ (x3 x4 : Option D) (more : List (List Nat)), env = [some (.int (n : Nat)), some (.ref l), some (.int (1 + (i : Nat))), x3, x4, none] ∧ S' l = some (.lst ((sets ++ more).map tupN)) ∧ S' q = some (.lst (sets.map tupN)) ∧ (∀ ps ∈ more, SetOk n ps) ∧ more.length ≤ 4 * m ∧ Kp S S') _ 0 ⟨_, _, [], rfl, by simpa using e3, f3, fun ps hp => by simp at hp, by simp, k3⟩ ?_ ?_
    · rintro m y _ S4 hy ⟨x3, x4, more, rfl, e4, f4, ok4, l4, k4⟩ nx2 hnx2
      rw [Nat.zero_add] at l4 hnx2
      rw [List.getElem?_map] at hy
      cases er : sets[m]? with
      | none => rw [er] at hy; cases hy
      | some ps =>
        rw [er] at hy
        cases hy
        have hm : m < sets.length := (List.getElem?_eq_some_iff.mp er).1
        have pok := ok2 ps (List.mem_of_getElem? er)
        refine ⟨f4, ?_⟩
        unfold tupN
        walk_at "dm"
        rw [List.length_map]
        by_cases hc : ps.length = i
        · rw [decide_eq_true (by omega)]
          with_reducible refine s_kT ?_
          have hl4 : ps.length ≤ 3 := by omega
          with_reducible refine s_cut (fun env S' => ∃ fst : Nat, env = [some (.int (n : Nat)), some (.ref l), some (.int (1 + (i : Nat))), some (.tup (ps.map natD)), some (.int fst), none] ∧ S' = S4 ∧ (∀ k, ps.getLast? = some k → k < fst) ∧ fst ≤ 5) ?_ ?_
          · rintro _ S4' ⟨fst, rfl, e44, hfst, hf5⟩
            obtain rfl : S4 = S4' := e44.symm
            walk_at "dm"
            refine s_kR2 ⟨by omega, by omega, by omega, by omega⟩ ?_
            walk_at "dm"
            intro q2 hq2
            rw [show ((n : Int) - (fst : Int)).toNat = n - fst by omega]
            refine lc_m (List.range (n - fst)) (fun (i : Nat) => D.int ((fst : Int) + (i : Int))) (fun i => tupN (ps ++ [fst + i])) (S0 := S4) put_same hq2 (Kp.refl.new hq2) (by simp; omega) ?_ ?_
            · intro k hk S5 k5 nx3 hT
              refine ⟨trivial, ?_⟩
              walk_at "dm"
              with_reducible refine s_kTp (szl (by simp)) ?_
              walk_at "dm"
              with_reducible refine s_addT (szl (by simp; omega)) ?_
              have h := hT _ (Kp.refl (S := S5))
              unfold tupN at h
              rw [List.map_append] at h
              have e1 : ([fst + k].map natD) = [D.int ((fst : Int) + (k : Int))] := by simp [natD]
              rw [e1] at h
              exact h
            · intro S5 e5 k5
              refine ⟨trivial, ?_⟩
              walk_at "dm"
              refine s_ext (xs := (sets ++ more).map tupN) (k5 _ _ e4) e5 (szl (by simp; omega)) ?_
              walk_at "dm"
              refine hnx2 _ _ ⟨_, _, more ++ (List.range (n - fst)).map fun k => ps ++ [fst + k], rfl, ?_, ?_, ?_, ?_, (k4.trans k5).wr h0⟩
              · rw [put_same]
                simp [List.map_append, List.map_map, Function.comp]
              · rw [put_ne lq.symm]
                exact k5 _ _ f4
              · intro zs hz
                rcases List.mem_append.mp hz with z | z
                · exact ok4 zs z
                · obtain ⟨k, hk, rfl⟩ := List.mem_map.mp z
                  have hk' := List.mem_range.mp hk
                  refine ⟨fun a ha => ?_, inc_snoc ps _ pok.inc fun z hz => Nat.lt_of_lt_of_le (hfst z hz) (by omega), by simp; omega⟩
                  rcases List.mem_append.mp ha with w | w
                  · exact pok.lt a w
                  · rw [List.mem_singleton.mp w]; omega
              · simp
                omega
          · intro nx4 hnx4
            by_cases hs : i = 0
            · subst hs
              have en : ps = [] := List.eq_nil_of_length_eq_zero hc
              subst en
              walk_at "dm"
              exact hnx4 _ _ ⟨0, rfl, rfl, fun k hk => (by cases hk), by omega⟩
            · cases eg : ps.getLast? with
              | none =>
                rw [List.getLast?_eq_none_iff] at eg
                rw [eg] at hc
                exact absurd hc.symm hs
              | some z =>
                have la := last_at eg
                have hz := pok.lt z (List.mem_of_getLast? eg)
                walk_at "dm"
                refine s_neg ?_
                walk_at "dm"
                with_reducible refine s_kNeg ?_
                walk_at "dm"
                exact hnx4 _ _ ⟨z + 1, rfl, rfl, fun k hk => (by rw [eg] at hk; cases hk; omega), by omega⟩
        · rw [decide_eq_false (by omega)]
          walk_at "dm"
          exact hnx2 _ _ ⟨_, _, more, rfl, e4, f4, ok4, by omega, k4⟩
    · rintro _ S4 ⟨x3, x4, more, rfl, e4, f4, ok4, l4, k4⟩
      rw [Nat.zero_add, List.length_map] at l4
      refine ⟨f4, ?_⟩
      refine hnx _ _ ⟨_, _, _, sets ++ more, rfl, e4, fun ps hp => ?_, by simp; omega, ?_, k4⟩
      · rcases List.mem_append.mp hp with z | z
        · exact ok2 ps z
        · exact ok4 ps z
      · rw [List.length_append, Nat.pow_succ]
        omega
  · rintro _ S2 ⟨x2, x3, x4, sets, rfl, e2, ok2, p2, l2, k2⟩
    rw [Nat.zero_add, rng_len] at l2
    have h5 : 5 ^ n ≤ 625 := Nat.le_trans (Nat.pow_le_pow_right (by decide) hn) (by decide)
    refine ⟨trivial, ?_⟩
    walk_at "dm"
    exact hQ l sets _ h0 e2 ok2 p2 (by omega) k2
end

set_option Elab.async false
set_option linter.all false
set_option maxRecDepth 100000
set_option maxHeartbeats 2000000
/-! P2A: a program that has a body; values that are no sets. -/
open PySem PySem.Spec PyProof.Rows L2 DL
theorem StA.kp {ns : List Int} {a l : Addr} {S S' : Sto} (h : StA ns a l S) (k : Kp S S') : StA ns a l S' := by
  obtain ⟨⟨p, b, c, s, e1, e2, e3⟩, e4, e5⟩ := h
  exact ⟨⟨p, b, c, s, k _ _ e1, e2, e3⟩, k _ _ e4, e5⟩
def sgn (k : Nat) : Str := ⟨#[97 + k]⟩
theorem sgn_inj {i j : Nat} (h : sgn i = sgn j) : i = j := by
  unfold sgn at h
  have := congrArg (fun s : Str => s.cps.toList) h
  simp at this
  exact this
theorem sgn_nm {k : Nat} (h : k < 26) : NmOk (sgn k) := by
  refine ⟨by simp [sgn], by simp [sgn], fun c hc => ?_⟩
  have : c = 97 + k := by simpa [sgn] using hc
  omega
theorem nm_x : NmOk ("x" : Str) := by
  refine ⟨by decide +kernel, by decide +kernel, fun c hc => ?_⟩
  have e : (Str.ofString "x").cps.toList = [120] := by decide +kernel
  have hc' : c ∈ (Str.ofString "x").cps.toList := hc
  rw [e] at hc'
  have : c = 120 := by simpa using hc'
  omega
theorem fresh_some {zs : List Str} (hl : zs.length ≤ 4) : ∃ k, k < 26 ∧ sgn k ∉ zs := by
  refine Classical.byContradiction fun hno => ?_
  have all : ∀ k, k < 26 → sgn k ∈ zs := fun k hk => Classical.byContradiction fun h => hno ⟨k, hk, h⟩
  have ix : ∀ k, k < 26 → ∃ i, i < zs.length ∧ zs[i]? = some (sgn k) := fun k hk => by
    obtain ⟨i, hi⟩ := List.getElem?_of_mem (all k hk)
    exact ⟨i, (List.getElem?_eq_some_iff.mp hi).1, hi⟩
  have ne : ∀ {i j k m : Nat}, zs[i]? = some (sgn k) → zs[j]? = some (sgn m) → k ≠ m → i ≠ j := fun h1 h2 hne e => by
    subst e
    rw [h1] at h2
    exact hne (sgn_inj (Option.some.inj h2))
  obtain ⟨i0, a0, b0⟩ := ix 0 (by decide)
  obtain ⟨i1, a1, b1⟩ := ix 1 (by decide)
  obtain ⟨i2, a2, b2⟩ := ix 2 (by decide)
  obtain ⟨i3, a3, b3⟩ := ix 3 (by decide)
  obtain ⟨i4, a4, b4⟩ := ix 4 (by decide)
  have := ne b0 b1 (by decide)
  have := ne b0 b2 (by decide)
  have := ne b0 b3 (by decide)
  have := ne b0 b4 (by decide)
  have := ne b1 b2 (by decide)
  have := ne b1 b3 (by decide)
  have := ne b1 b4 (by decide)
  have := ne b2 b3 (by decide)
  have := ne b2 b4 (by decide)
  have := ne b3 b4 (by decide)
  omega
section
variable {K : PySem.W.Frag} {S : Sto} {o : Addr} {x : Parts} {slots us : List Str} {pk wr : Bool} {j : Nat} {p : Str × List Row} {Q : DQ} {E : XQ} {ns : List Int} {a l : Addr}
theorem sizes_ok (h : StA ns a l S) (hQ : ∀ z w s d e r S', S' z = some (.lst [.int w, .int s, .int d, .int e, .int r]) → z ≠ a → (0 < w ∧ w ≤ 3 ∧ 0 < s ∧ s ≤ 4 ∧ 0 ≤ d ∧ d ≤ 6 ∧ 0 ≤ e ∧ e ≤ 4 ∧ 0 ≤ r ∧ r ≤ 15) → StA ns a l S' → Fr a S S' → Q (.ref z) S') : sp__law_sizes K [.ref a] S Q E := by
  refine spB_mk rfl ?_
  unfold b__law_sizes
  walk_at "dm"
  refine draw_ok h (by decide) (by decide +kernel) fun r S1 r0 r1 h1 f1 => ?_
  walk_at "dm"
  refine s_ifB (fun _ => ?_) fun _ => ?_
  · walk_at "dm"
    with_reducible refine s_kLs (szl (by simp)) fun z hz => ?_
    obtain ⟨h2, f2, za, _, _, ez⟩ := newobj (o := .lst [.int 3, .int 4, .int 6, .int 4, .int 4]) h1 f1 hz
    exact hQ z _ _ _ _ _ _ ez za (by decide) h2 f2
  · walk_at "dm"
    with_reducible refine s_kLs (szl (by simp)) fun z hz => ?_
    obtain ⟨h2, f2, za, _, _, ez⟩ := newobj (o := .lst [.int 2, .int 3, .int 3, .int 3, .int 7]) h1 f1 hz
    exact hQ z _ _ _ _ _ _ ez za (by decide) h2 f2
theorem parts_one (P : PartsOk x slots true true) {k : Nat} (hk : k < 26) (hf : sgn k ∉ x.sources) : PartsOk ⟨x.words, x.sources, [(sgn k, [.read (x.src 0) "x", .give "x"])], []⟩ ["x"] true true := by
  have s1 := P.s1
  have ns := P.nn.left.left
  refine ⟨P.ww, P.w2, P.w4, ?_, P.s1, P.s4, by simp, by simp, fun z hz => ?_, fun i q hq => ?_, fun q hq => by simp at hq⟩
  · refine ⟨fun z hz => ?_, ?_⟩
    · simp at hz
      rcases hz with z1 | z1
      · exact ns.1 z z1
      · rw [z1]; exact sgn_nm hk
    · simp only [List.map_cons, List.map_nil, List.append_nil]
      refine List.nodup_append.mpr ⟨ns.2, by simp, fun z hz y hy e => ?_⟩
      rw [List.mem_singleton.mp hy] at e
      rw [e] at hz
      exact hf hz
  · rw [List.mem_singleton.mp hz]; exact nm_x
  · cases i with
    | succ i => simp at hq
    | zero =>
      simp at hq
      subst hq
      refine ⟨?_, ?_, ?_⟩
      · rw [rowsOk, Row.ok, rowsOk, Row.ok, rowsOk]
        refine ⟨⟨?_, by simp⟩, ⟨rfl, by simp⟩, trivial⟩
        simp
        exact src_mem (by omega)
      · rw [rowsCnt, Row.ex, rowsCnt, Row.ex, rowsCnt]; decide
      · rw [rowsDep, Row.dep, rowsDep, Row.dep, rowsDep]; decide
theorem bodied_ok (h : StA ns a l S) (hQ : ∀ x slots S', PartsOk x slots true true → 0 < (x.derived ++ x.effects).length → StA ns a l S' → Fr a S S' → Q x.d S') : sp__law_bodied K [.ref a, .bl true, .bl true] S Q E := by
  refine spB_mk rfl ?_
  unfold b__law_bodied
  walk_at "dmn"
  with_reducible refine s_seq ?_
  walk_at "dmn"
  refine s_kR1 (by decide) (by decide) ?_
  walk_at "dmn"
  rw [show (3 : Int).toNat = 3 by rfl]
  refine for_ix (fun i env S' => ∃ (x3 x4 : Option D), env = [some (.ref a), some (.bl true), some (.bl true), x3, x4, none, none, none, none] ∧ (0 < i → ∃ x slots, x4 = some (Parts.d x) ∧ PartsOk x slots true true) ∧ StA ns a l S' ∧ Fr a S S') _ 0 ⟨_, _, rfl, fun h => absurd h (by decide), h, Fr.refl⟩ ?_ ?_
  · rintro i y _ S1 hy ⟨x3, x4, rfl, _, h1, f1⟩ nx hnx
    rw [Nat.zero_add] at hnx
    refine ⟨trivial, ?_⟩
    refine s_gNm ?_
    walk_at "dm"
    refine sizes_ok h1 fun z w s d e r S2 ez za c h2 f2 => ?_
    obtain ⟨c1, c2, c3, c4, c5, c6, c7, c8, c9, c10⟩ := c
    walk_at "dm"
    refine parts_ok h2 ez za c1 c2 c3 c4 c5 c6 c7 c8 c9 c10 fun x slots S3 P h3 f3 => ?_
    have f13 := (f1.trans f2).trans f3
    clear ez
    refine s_kAsgN ?_
    with_reducible refine s_cut (fun env S' => ∃ x slots, env = [some (.ref a), some (.bl true), some (.bl true), some y, some (Parts.d x), none, none, none, none] ∧ PartsOk x slots true true ∧ StA ns a l S' ∧ Fr a S S') ?_ ?_
    rotate_left
    · intro nx2 hnx2
      have keep : nx2 [some (.ref a), some (.bl true), some (.bl true), some y, some (Parts.d x), none, none, none, none] S3 := hnx2 _ _ ⟨x, slots, rfl, P, h3, f13⟩
      rw [xd_eq] at keep ⊢
      walk_at "dm"
      refine s_kAndB (fun _ => ?_) fun _ => ?_
      · walk_at "dm"
        refine s_ifB (fun _ => ?_) fun _ => ?_
        · walk_at "dm"
          with_reducible refine s_kLs (szl (by simp)) fun z hz => ?_
          obtain ⟨h4, f4, za, _, _, ez⟩ := newobj (o := .lst [.int 2, .int 3, .int 3, .int 3, .int 7]) h3 f13 hz
          generalize DL.put S3 z (.lst [.int 2, .int 3, .int 3, .int 3, .int 7]) = S4 at h4 f4 ez ⊢
          walk_at "dm"
          refine parts_ok h4 ez za (by decide) (by decide) (by decide) (by decide) (by decide) (by decide) (by decide) (by decide) (by decide) (by decide) fun x' slots' S5 P' h5 f5 => ?_
          refine s_kAsgN ?_
          exact hnx2 _ _ ⟨x', slots', rfl, P', h5, f4.trans f5⟩
        · walk_at "dm"
          exact keep
      · walk_at "dm"
        exact keep
    rintro _ S4 ⟨x, slots, rfl, P, h4, f4⟩
    have d6 := P.d6
    have e4 := P.e4
    have keep : nx [some (.ref a), some (.bl true), some (.bl true), some y, some (Parts.d x), none, none, none, none] S4 := hnx _ _ ⟨_, _, rfl, fun _ => ⟨x, slots, rfl, P⟩, h4, f4⟩
    have fin := hQ x slots S4 P
    rw [xd_eq] at keep fin ⊢
    walk_at "dm"
    with_reducible refine s_addT (szl (by simp; omega)) ?_
    rw [← List.map_append]
    walk_at "dm"
    refine s_ifB (fun hc => ?_) fun _ => ?_
    · walk_at "dm"
      refine fin ?_ h4 f4
      have := of_decide_eq_true hc
      simp at this ⊢
      omega
    · walk_at "dm"
      exact keep
  · rintro _ S1 ⟨x3, x4, rfl, hx, h1, f1⟩
    obtain ⟨x, slots, rfl, P⟩ := hx (by simp [rng_len])
    have s1 := P.s1
    have s4 := P.s4
    have es0 : L2.atI (x.sources.map D.str) 0 = some (.str (x.src 0)) := atI_nat (p := 0) (by rw [List.getElem?_map, src_at (by omega)]; rfl)
    refine ⟨trivial, ?_⟩
    rw [xd_eq]
    walk_at "dm"
    with_reducible refine s_kTp (szl (by simp)) ?_
    walk_at "dm"
    with_reducible refine s_kTp (szl (by simp)) ?_
    walk_at "dm"
    with_reducible refine s_kTp (szl (by simp)) ?_
    walk_at "dm"
    refine s_kR1 (by decide) (by decide) ?_
    walk_at "dm"
    rw [show (26 : Int).toNat = 26 by rfl, rng_nat]
    intro q hq
    obtain ⟨h2, f2, qa, qS, k2, t2⟩ := newobj (o := .lst []) h1 f1 hq
    refine lc_fm (List.range 26) natD (fun k => !decide (sgn k ∈ x.sources)) (fun k => .str (sgn k)) (S0 := S1) put_same hq (Kp.refl.new hq) (by simp) ?_ ?_
    · intro k hk S2 k2 nx hT hF
      refine ⟨trivial, ?_⟩
      have hk' := List.mem_range.mp hk
      have la := letters_at (i := (k : Int)) (by omega) (by omega)
      rw [show ((k : Nat) : Int).toNat = k by simp] at la
      unfold natD
      walk_at "dm"
      refine s_inS (z := sgn k) ?_
      walk_at "dm"
      refine s_kLt (fun hc => ?_) fun hc => hF hc _ Kp.refl
      walk_at "dm"
      exact hT hc _ Kp.refl
    · intro S2 e2 k2
      refine ⟨trivial, ?_⟩
      obtain ⟨k0, hk0, hf0⟩ := fresh_some s4
      cases ef : (List.range 26).filter fun k => !decide (sgn k ∈ x.sources) with
      | nil =>
        have := List.filter_eq_nil_iff.mp ef k0 (List.mem_range.mpr hk0)
        simp [hf0] at this
      | cons k rest =>
        have hm : k ∈ (List.range 26).filter fun k => !decide (sgn k ∈ x.sources) := by rw [ef]; exact List.mem_cons_self ..
        obtain ⟨hm1, hm2⟩ := List.mem_filter.mp hm
        have hk := List.mem_range.mp hm1
        have hf : sgn k ∉ x.sources := by simpa using hm2
        rw [ef, List.map_cons] at e2
        have ea0 : L2.atI (D.str (sgn k) :: rest.map fun k => D.str (sgn k)) 0 = some (.str (sgn k)) := atI_nat (p := 0) rfl
        walk_at "dm"
        with_reducible refine s_kTp (szl (by simp)) ?_
        walk_at "dm"
        with_reducible refine s_kTp (szl (by simp)) ?_
        walk_at "dm"
        with_reducible refine s_kTp (szl (by simp)) ?_
        walk_at "dm"
        with_reducible refine s_kTp (szl (by simp)) ?_
        walk_at "dm"
        have ec : DL.cutD [D.tup (x.words.map D.str), .tp true (x.sources.map D.str), .tup (x.derived.map pairD), .tup (x.effects.map pairD)] none (some 2) = [D.tup (x.words.map D.str), .tp true (x.sources.map D.str)] := rfl
        rw [ec]
        with_reducible refine s_addT (szl (by simp)) ?_
        have fin := hQ _ _ S2 (parts_one P hk hf) (by simp) (h1.kp k2) (f1.trans k2.fr)
        have ed : Parts.d ⟨x.words, x.sources, [(sgn k, [.read (x.src 0) "x", .give "x"])], []⟩ = .tup ([D.tup (x.words.map D.str), .tp true (x.sources.map D.str)] ++ [.tup [.tup [.str (sgn k), .tup [.tup [.str "read", .str (x.src 0), .str "x"], .tup [.str "give", .str "x"]]]], .tup []]) := by
          unfold Parts.d pairD
          simp only [List.map_cons, List.map_nil, rowsD, Row.d]
          rfl
        rw [ed] at fin
        exact fin
end

set_option Elab.async false
set_option linter.all false
set_option maxRecDepth 100000
set_option maxHeartbeats 2000000
/-! P2B: values that are no sets; the law. -/
open PySem PySem.Spec PyProof.Rows L2 DL
/-- equal to itself, whatever is made later -/
def Slf (S : Sto) (d : D) : Prop := ∀ S', Kp S S' → ∀ Q : DQ, Q (.bl true) S' → vEqA (fun b => b) d d S' Q
theorem slf_rs {S : Sto} {d : D} (h1 : ∀ S', Kp S S' → eqDi S' d d = none) (h2 : ∀ S', Kp S S' → ∃ p, rs S' 40 d = some p ∧ PyData.eqv p p = true) (h3 : ∀ S Q, (∃ p, rs S 40 d = some p ∧ Q (.bl (PyData.eqv p p)) S) → vEqG (fun b => b) d d S Q) : Slf S d := fun S' k Q hq => by
  unfold vEqA
  rw [h1 S' k]
  obtain ⟨p, e, r⟩ := h2 S' k
  exact h3 S' Q ⟨p, e, by rw [r]; exact hq⟩
theorem slf_tup {S : Sto} {ds : List D} (h : ∀ S', ∃ ps, ds.mapM (rs S' 39) = some ps ∧ PyData.eqvAll ps ps = true) : Slf S (.tup ds) := by
  refine slf_rs (fun _ _ => rfl) (fun S' _ => ?_) fun S Q hq => ?_
  · obtain ⟨ps, e, r⟩ := h S'
    refine ⟨.tuple ps, ?_, by rw [PyData.eqv]; exact r⟩
    show (List.mapM (rs S' 39) ds).map PyData.tuple = _
    rw [e]
    rfl
  · obtain ⟨p, e, q⟩ := hq
    unfold vEqG
    simp only [e]
    exact q
theorem eqvAll_strs (zs : List Str) : PyData.eqvAll (zs.map PyData.str) (zs.map PyData.str) = true := by rw [eqvAll_map eqv_str]; simp
theorem slf_strs {S : Sto} (zs : List Str) : Slf S (.tup (zs.map D.str)) := slf_tup fun S' => ⟨_, rs_strs zs, eqvAll_strs zs⟩
structure NsOk (x : Parts) (S : Sto) (d : D) : Prop where
  no : NoSet x S d
  eq : Slf S d
theorem NsOk.kp {x : Parts} {S S' : Sto} {d : D} (h : NsOk x S d) (k : Kp S S') : NsOk x S' d := ⟨h.no.kp k, fun S2 k2 Q hq => h.eq S2 (k.trans k2) Q hq⟩
theorem not_UA {zs : List Str} (h : ∀ z ∈ zs, NmOk z) : ("UA" : Str) ∉ zs := fun hm => by
  have e : (Str.ofString "UA").cps.toList = [85, 65] := by decide +kernel
  have := (h _ hm).az 85 (show 85 ∈ (Str.ofString "UA").cps.toList by rw [e]; simp)
  omega
section
variable {K : PySem.W.Frag} {S : Sto} {o : Addr} {x : Parts} {slots us : List Str} {pk wr : Bool} {j : Nat} {p : Str × List Row} {Q : DQ} {E : XQ} {ns : List Int} {a l : Addr}
theorem src_map (x : Parts) : x.sources.map D.str = (List.range x.sources.length).map (srcD x) := by
  apply List.ext_getElem?
  intro i
  rw [List.getElem?_map, List.getElem?_map]
  by_cases h : i < x.sources.length
  · rw [src_at h, List.getElem?_range h]
    rfl
  · rw [List.getElem?_eq_none (by omega), List.getElem?_eq_none (by simp; omega)]
    rfl
theorem no_set_ok (h : StA ns a l S) (P : PartsOk x slots pk wr) (hQ : ∀ d S', NsOk x S' d → StA ns a l S' → Fr a S S' → Q d S') : sp__law_no_set K [.ref a, x.d] S Q E := by
  have s1 := P.s1
  have s4 := P.s4
  have d6 := P.d6
  have ns' := P.nn.left.left
  have es0 : L2.atI (x.sources.map D.str) 0 = some (.str (x.src 0)) := atI_nat (p := 0) (by rw [List.getElem?_map, src_at (by omega)]; rfl)
  rw [xd_eq]
  refine spB_mk rfl ?_
  unfold b__law_no_set
  walk_at "dm"
  refine draw_ok h (by decide) (by decide +kernel) fun r S1 r0 r1 h1 f1 => ?_
  walk_at "dm"
  refine s_ifB (fun hc => ?_) fun hc => ?_
  · have hr := of_decide_eq_true hc
    walk_at "dm"
    intro q1 hq1
    obtain ⟨h2, f2, qa, qS, k2, t2⟩ := newobj (o := .lst (x.sources.map D.str)) h1 f1 hq1
    generalize DL.put S1 q1 (.lst (x.sources.map D.str)) = S2 at h2 f2 k2 t2 ⊢
    walk_at "dm"
    with_reducible refine s_kTp (szl (by simp)) ?_
    walk_at "dm"
    with_reducible refine s_kTp (szl (by simp)) ?_
    walk_at "dm"
    with_reducible refine s_kLs (szl (by simp)) fun q2 hq2 => ?_
    obtain ⟨h3, f3, qa3, qS3, k3, t3⟩ := newobj (o := .lst [.non, .ref q1, .str (x.src 0), .tup [.str (x.src 0), .str (x.src 0)], .tup [.str "UA"]]) h2 f2 hq2
    have t23 := k3 _ _ t2
    generalize DL.put S2 q2 (.lst [.non, .ref q1, .str (x.src 0), .tup [.str (x.src 0), .str (x.src 0)], .tup [.str "UA"]]) = S3 at h3 f3 k3 t3 t23 ⊢
    have c5 : r = 0 ∨ r = 1 ∨ r = 2 ∨ r = 3 ∨ r = 4 := by omega
    rcases c5 with rfl | rfl | rfl | rfl | rfl
    · walk_at "dm"
      refine hQ _ _ ⟨.ty (a := "NoneType") rfl rfl, ?_⟩ h3 f3
      refine slf_rs (fun _ _ => rfl) (fun _ _ => ⟨.none, rfl, by simp [PyData.eqv]⟩) fun S Q hq => ?_
      obtain ⟨p, e, q⟩ := hq
      unfold vEqG
      simp only [e]
      exact q
    · walk_at "dm"
      refine hQ _ _ ⟨.ty (a := "list") (by unfold tyD; simp only [t23]) rfl, ?_⟩ h3 f3
      refine slf_rs (fun S' k => by unfold eqDi; simp only [k _ _ t23]) (fun S' k => ⟨.list (x.sources.map PyData.str), rs_lstS (k _ _ t23), by rw [PyData.eqv]; exact eqvAll_strs _⟩) fun S Q hq => ?_
      obtain ⟨p, e, q⟩ := hq
      unfold vEqG
      simp only [e]
      exact q
    · walk_at "dm"
      refine hQ _ _ ⟨.ty (a := "str") rfl rfl, fun S' _ Q hq => ?_⟩ h3 f3
      show Q (.bl (decide (x.src 0 = x.src 0))) S'
      rw [decide_eq_true rfl]
      exact hq
    · walk_at "dm"
      refine hQ _ _ ⟨?_, slf_strs [x.src 0, x.src 0]⟩ h3 f3
      exact .inc (js := [0, 0]) (fun i hi => by simp at hi; omega) (by simp) (by decide)
    · walk_at "dm"
      exact hQ _ _ ⟨.na (not_UA ns'.1), slf_strs ["UA"]⟩ h3 f3
  · with_reducible refine s_nx ?_
    with_reducible refine s_cut (fun env S' => env = [some (.ref a), some (.tup [.tup (x.words.map D.str), .tp true (x.sources.map D.str), .tup (x.derived.map pairD), .tup (x.effects.map pairD)]), some (.tp true (x.sources.map D.str)), some (.int r)] ∧ S' = S1) ?_ ?_
    rotate_left
    · intro nx hnx
      walk_at "dm"
      refine s_kAndB (fun hc5 => ?_) fun hc5 => ?_
      · have hr : r = 5 := of_decide_eq_true hc5
        walk_at "dm"
        refine s_ifB (fun hn => ?_) fun hn => ?_
        · have hn2 : 1 < x.sources.length := by
            have := of_decide_eq_true hn
            simp at this
            omega
          walk_at "dm"
          refine hQ _ _ ⟨?_, ?_⟩ h1 f1
          · have e : (x.sources.map D.str).reverse = ((List.range x.sources.length).reverse).map (srcD x) := by rw [src_map, List.map_reverse]
            rw [e]
            refine .inc (fun i hi => by simpa using hi) (by simp; omega) ?_
            have c : x.sources.length = 2 ∨ x.sources.length = 3 ∨ x.sources.length = 4 := by omega
            rcases c with c | c | c <;> (rw [c]; decide)
          · rw [← List.map_reverse]
            exact slf_strs _
        · walk_at "dm"
          exact hnx _ _ ⟨rfl, rfl⟩
      · walk_at "dm"
        exact hnx _ _ ⟨rfl, rfl⟩
    rintro _ S1' ⟨rfl, eS⟩
    obtain rfl : S1 = S1' := eS.symm
    with_reducible refine s_cut (fun env S' => env = [some (.ref a), some (.tup [.tup (x.words.map D.str), .tp true (x.sources.map D.str), .tup (x.derived.map pairD), .tup (x.effects.map pairD)]), some (.tp true (x.sources.map D.str)), some (.int r)] ∧ S' = S1) ?_ ?_
    rotate_left
    · intro nx hnx
      walk_at "dm"
      refine s_kAndB (fun hc5 => ?_) fun hc5 => ?_
      · walk_at "dm"
        refine s_ifB (fun hn => ?_) fun hn => ?_
        · have hn2 : 0 < x.derived.length := by
            have := of_decide_eq_true hn
            simp at this
            omega
          have ed0 : L2.atI (x.derived.map pairD) 0 = some (pairD x.derived[0]) := atI_nat (p := 0) (by rw [List.getElem?_map, List.getElem?_eq_getElem hn2]; rfl)
          walk_at "dm"
          unfold pairD
          walk_at "dm"
          with_reducible refine s_kTp (szl (by simp)) ?_
          refine hQ _ _ ⟨.na fun hm => ?_, slf_strs [x.derived[0].1]⟩ h1 f1
          have nd := P.nn.left.2
          exact (List.nodup_append.mp nd).2.2 _ hm _ (List.mem_map_of_mem (List.getElem_mem hn2)) rfl
        · walk_at "dm"
          exact hnx _ _ ⟨rfl, rfl⟩
      · walk_at "dm"
        exact hnx _ _ ⟨rfl, rfl⟩
    rintro _ S1' ⟨rfl, eS⟩
    obtain rfl : S1 = S1' := eS.symm
    walk_at "dm"
    with_reducible refine s_kTp (szl (by simp)) ?_
    walk_at "dm"
    with_reducible refine s_kTp (szl (by simp)) ?_
    walk_at "dm"
    with_reducible refine s_kTp (szl (by simp)) ?_
    walk_at "dm"
    with_reducible refine s_dnew fun q1 hq1 => ?_
    obtain ⟨h2, f2, qa, qS, k2, t2⟩ := newobj (o := .dic []) h1 f1 hq1
    generalize DL.put S1 q1 (.dic []) = S2 at h2 f2 k2 t2 ⊢
    walk_at "dm"
    with_reducible refine s_kLs (szl (by simp)) fun q2 hq2 => ?_
    obtain ⟨h3, f3, qa3, qS3, k3, t3⟩ := newobj (o := .lst [.tup [.tp true (x.sources.map D.str)], .tup [.bl true], .tup [.non], .ref q1]) h2 f2 hq2
    have t23 := k3 _ _ t2
    generalize DL.put S2 q2 (.lst [.tup [.tp true (x.sources.map D.str)], .tup [.bl true], .tup [.non], .ref q1]) = S3 at h3 f3 k3 t3 t23 ⊢
    walk_at "dm"
    refine draw_ok h3 (by decide) (by decide +kernel) fun r' S4 r0' r1' h4 f4 => ?_
    have t4 := f4 _ _ qa3 t3
    have t24 := f4 _ _ qa t23
    have c4 : r' = 0 ∨ r' = 1 ∨ r' = 2 ∨ r' = 3 := by omega
    rcases c4 with rfl | rfl | rfl | rfl
    · walk_at "dm"
      refine hQ _ _ ⟨.el (a := "tuple") rfl rfl, ?_⟩ h4 (f3.trans f4)
      refine slf_tup fun S' => ⟨[.tuple (x.sources.map PyData.str)], ?_, ?_⟩
      · rw [List.mapM_cons]
        show (do let y ← (List.mapM (rs S' 38) (x.sources.map D.str)).map PyData.tuple; _) = _
        rw [rs_strs]
        rfl
      · rw [PyData.eqvAll, PyData.eqvAll, PyData.eqv, eqvAll_strs]
        rfl
    · walk_at "dm"
      refine hQ _ _ ⟨.el (a := "bool") rfl rfl, ?_⟩ h4 (f3.trans f4)
      exact slf_tup fun S' => ⟨[.bool true], rfl, by simp [PyData.eqvAll, PyData.eqv]⟩
    · walk_at "dm"
      refine hQ _ _ ⟨.el (a := "NoneType") rfl rfl, ?_⟩ h4 (f3.trans f4)
      exact slf_tup fun S' => ⟨[.none], rfl, by simp [PyData.eqvAll, PyData.eqv]⟩
    · walk_at "dm"
      refine hQ _ _ ⟨.ty (a := "dict") (by unfold tyD; simp only [t24]) rfl, fun S' k Q hq => ?_⟩ h4 (f3.trans f4)
      unfold vEqA eqDi
      simp only [k _ _ t24]
      exact hq
structure Exm (K : PySem.W.Frag) : Prop where
  is : PySem.W.exmOne K (.ref (He.ga K "InvalidSources")) (.ref (He.ga K "InvalidSources")) = some true
theorem refused_ok {d : D} (M : Exm K) (G : FPr K) (F : FTr K) (L : FTl K) (P : PartsOk x slots pk wr) (eo : S o = some (progO K x)) (W : WdOk x us) (hp : (x.derived ++ x.effects)[j]? = some p) (N : NsOk x S d)
    (hQ : ∀ S', Q (.bl true) S') : sp__law_refused K [.ref o, tupS us, .str p.1, d] S Q E := by
  refine spB_mk rfl ?_
  unfold b__law_refused
  walk_at "dm"
  with_reducible refine s_kLs (szl (by simp)) fun l0 h0 => ?_
  have k0 : Kp S (DL.put S l0 (.lst [])) := Kp.refl.new h0
  generalize DL.put S l0 (.lst []) = S1 at k0 ⊢
  walk_at "dm"
  with_reducible refine s_try ?_
  walk_at "dm"
  refine lever_words_no G F L P (k0 _ _ eo) W hp (N.no.kp k0) fun S2 k2 => ?_
  refine s_hit M.is fun z hz => ?_
  walk_at "dm"
  refine s_xf rfl rfl ?_
  walk_at "dm"
  with_reducible refine s_kLs (szl (by simp)) fun l1 h1 => ?_
  have k3 := ((k0.trans k2).new (o := .lst [d]) h1)
  have e3 : DL.put S2 l1 (.lst [d]) l1 = some (.lst [d]) := put_same
  generalize DL.put S2 l1 (.lst [d]) = S3 at k3 e3 ⊢
  walk_at "dm"
  show (finAt 5 _).nx _ _
  unfold finAt
  walk_at "dm"
  exact N.eq _ k3 _ (hQ _)
end

set_option Elab.async false
set_option linter.all false
set_option maxRecDepth 100000
set_option maxHeartbeats 2000000
/-! P2C: the law. -/
open PySem PySem.Spec PyProof.Rows L2 DL
theorem s_eqRow {g : Bool → Bool} {c : Option (List Str)} {S : Sto} {Q : DQ} (h : Q (.bl (g true)) S) : vEqG g (rowD c) (rowD c) S Q := by
  cases c with
  | none =>
    have e : rs S 40 D.non = some PyData.none := rfl
    unfold rowD vEqG
    simp only [e]
    have : PyData.eqv PyData.none PyData.none = true := by simp [PyData.eqv]
    rw [this]
    exact h
  | some r =>
    have e : rs S 40 (.tup (r.map D.str)) = some (.tuple (r.map PyData.str)) := rs_tupS r
    unfold rowD tupS vEqG
    simp only [e]
    have : PyData.eqv (.tuple (r.map PyData.str)) (.tuple (r.map PyData.str)) = true := by rw [PyData.eqv]; exact eqvAll_strs r
    rw [this]
    exact h
theorem s_isRow {g : Bool → Bool} {c : Option (List Str)} {S : Sto} {Q : DQ} (h : Q (.bl (g c.isNone)) S) : vIsG g (rowD c) .non S Q := by
  cases c with
  | none => exact h
  | some r => exact h
theorem s_isBB {g : Bool → Bool} {x y : Bool} {S : Sto} {Q : DQ} (h : Q (.bl (g (decide (x = y)))) S) : vIsG g (.bl x) (.bl y) S Q := h
theorem find_none {α : Type} (f : α → Bool) : ∀ xs : List α, (xs.find? f).isNone = xs.all fun r => !f r
  | [] => rfl
  | x :: xs => by
    rw [List.find?_cons, List.all_cons]
    cases h : f x with
    | true => simp
    | false => simpa using find_none f xs
theorem lev_none {x : Parts} {j : Nat} {p : Str × List Row} {us : List Str} {ps : List Nat} : (levO x j p us ps).isNone = fixB x j p us (oth x.sources.length ps) := by
  unfold levO fixB
  rw [find_none, List.all_filter]
  congr 1
  funext r
  unfold levC
  cases decide (x.tell j p r = x.tell j p us) <;> cases agB r us (oth x.sources.length ps) <;> rfl
theorem nm_okS {z : Str} (h : NmOk z) : OkS z := by
  refine ⟨?_, ?_⟩
  · show z.cps.all (· < 0x110000) = true
    rw [← Array.all_toList]
    refine List.all_eq_true.mpr fun c hc => ?_
    have := h.az c hc
    exact decide_eq_true (by omega)
  · exact Nat.le_trans (show z.cps.size ≤ 8 from h.eight) (by decide)
theorem rod_eq (x : Parts) (j : Nat) (p : Str × List Row) : D.rod ((tabK x j p x.rows).map (·.1)) ((tabK x j p x.rows).map (·.2)) = rodT x j p := by
  unfold rodT tabK
  rw [List.map_map, List.map_map]
  rfl
theorem del_ne {S : Sto} {t b : Addr} (h : b ≠ t) : delS S t b = S b := by
  unfold delS
  rw [if_neg h]
theorem at_nat {sets : List (List Nat)} {i : Nat} (h : i < sets.length) : L2.atI (sets.map tupN) (i : Int) = some (tupN sets[i]) := atI_nat (by rw [List.getElem?_map, List.getElem?_eq_getElem h]; rfl)
theorem law_ok {K : PySem.W.Frag} (M : Exm K) (B : FBc K) (G : FPr K) (F : FTr K) (L : FTl K) {ns : List Int} (hn : ns.length ≤ 63) {S : Sto} {Q : DQ} {E : XQ} (hQ : ∀ S', Q (.bl true) S') : sp_law K [.rol (ns.map D.int)] S Q E := by
  refine spB_mk rfl ?_
  unfold b_law
  walk_at "dm"
  refine state_ok hn fun a l S1 h1 => ?_
  walk_at "dm"
  refine bodied_ok h1 fun x slots S2 P hb h2 _ => ?_
  have w2 := P.w2
  have w4 := P.w4
  have s1 := P.s1
  have s4 := P.s4
  walk_at "dm"
  refine law_body_ok h2 P hb fun j p S3 hp h3 _ => ?_
  walk_at "dm"
  refine words_ok h3 (by omega) (by omega) (by omega) fun us S4 ul um h4 _ => ?_
  have W : WdOk x us := ⟨ul, um⟩
  clear h1 h2 h3
  walk_at "dm"
  refine program_ok B G P fun o S5 ho eo k5 => ?_
  have h5 := h4.kp k5
  clear h4 k5 ho
  walk_at "dm"
  refine table_of_ok P hp fun t S6 ht e6 k6 => ?_
  refine s_kFz e6 (fun kv hk y hy => ?_) ?_
  · unfold tabK at hk
    obtain ⟨r, hr, rfl⟩ := List.mem_map.mp hk
    obtain ⟨u, hu, rfl⟩ := List.mem_map.mp hy
    exact nm_okS (P.ww.1 u ((rowsW_mem.mp hr).2 u hu))
  rw [rod_eq]
  have ot : o ≠ t := fun z => by subst z; rw [eo] at ht; cases ht
  have h7 : StA ns a l (delS S6 t) := by
    obtain ⟨⟨pp, b, c, s, e1, e2, e3⟩, e4, e5⟩ := h5
    have at_ : a ≠ t := fun z => by subst z; rw [e1] at ht; cases ht
    have lt_ : l ≠ t := fun z => by subst z; rw [e4] at ht; cases ht
    exact ⟨⟨pp, b, c, s, (del_ne at_).trans (k6 _ _ e1), e2, e3⟩, (del_ne lt_).trans (k6 _ _ e4), e5⟩
  have eo7 : delS S6 t o = some (progO K x) := (del_ne ot).trans (k6 _ _ eo)
  generalize delS S6 t = S7 at h7 eo7 ⊢
  clear h5 eo k6 e6 ht
  walk_at "dmn"
  with_reducible refine s_seq ?_
  walk_at "dmn"
  rw [List.length_map, ul]
  refine sets_ok s4 fun q sets S8 hq e8 ok8 p8 l8 k8 => ?_
  have h8 := h7.kp k8
  have eo8 := k8 _ _ eo7
  clear h7 k8 eo7 hq
  walk_at "dmn"
  refine for_ix (fun i env S' => ∃ (x7 x8 : Option D), env = [some (.rol (ns.map D.int)), some (.ref a), some (Parts.d x), some (.str p.1), some (.tup (us.map D.str)), some (.ref o), some (rodT x j p), x7, x8, none, none, none, none, none] ∧ Kp S8 S') _ 0 ⟨_, _, rfl, Kp.refl⟩ ?_ ?_
  · rintro i y _ S9 hy ⟨x7, x8, rfl, k9⟩ nx hnx
    rw [List.getElem?_map] at hy
    cases er : sets[i]? with
    | none => rw [er] at hy; cases hy
    | some ps =>
      rw [er] at hy
      cases hy
      have sok := ok8 ps (List.mem_of_getElem? er)
      have pl := sok.len
      refine ⟨k9 _ _ e8, ?_⟩
      unfold tupN
      walk_at "dm"
      refine named_ok sok.lt (by omega) fun SA kA => ?_
      walk_at "dm"
      refine is_reason_ok G F L P (kA _ _ (k9 _ _ eo8)) W hp sok.lt (by omega) sok.inc fun SB kB => ?_
      walk_at "dm"
      refine law_fixed_ok P W sok.lt (by omega) fun SC kC => ?_
      walk_at "dm"
      refine flag_ok ?_
      walk_at "dm"
      exact hnx _ _ ⟨_, _, rfl, ((k9.trans kA).trans kB).trans kC⟩
  rintro _ S9 ⟨x7, x8, rfl, k9⟩
  refine ⟨k9 _ _ e8, ?_⟩
  have h9 := h8.kp k9
  have eo9 := k9 _ _ eo8
  clear h8 eo8 e8 ok8 p8 l8 k9
  walk_at "dm"
  rw [List.length_map, ul]
  refine sets_ok s4 fun q2 sets2 SA hq2 eA okA pA lA kA => ?_
  have hA := h9.kp kA
  have eoA := kA _ _ eo9
  have q2a : q2 ≠ a := fun z => by
    obtain ⟨⟨_, _, _, _, ea, _⟩, _⟩ := h9
    rw [z, ea] at hq2
    cases hq2
  have oa : o ≠ a := fun z => by
    obtain ⟨⟨_, _, _, _, ea, _⟩, _⟩ := h9
    rw [z, ea] at eo9
    unfold progO at eo9
    cases eo9
  clear h9 eo9 kA hq2
  walk_at "dmn"
  with_reducible refine s_seq ?_
  walk_at "dmn"
  refine s_kR1 (by decide) (by decide) ?_
  walk_at "dmn"
  rw [show (4 : Int).toNat = 4 by rfl]
  refine for_ix (fun i env S' => ∃ (x7 x8 x10 x11 x12 : Option D), env = [some (.rol (ns.map D.int)), some (.ref a), some (Parts.d x), some (.str p.1), some (.tup (us.map D.str)), some (.ref o), some (rodT x j p), x7, x8, some (.ref q2), x10, x11, x12, none] ∧ StA ns a l S' ∧ S' o = some (progO K x) ∧ S' q2 = some (.lst (sets2.map tupN))) _ 0 ⟨_, _, _, _, _, rfl, hA, eoA, eA⟩ ?_ ?_
  · rintro i y _ SB hy ⟨x7, x8, x10, x11, x12, rfl, hB, eoB, eB⟩ nx hnx
    refine ⟨trivial, ?_⟩
    refine s_gNm ?_
    walk_at "dm"
    rw [List.length_map]
    refine draw_ok hB (by omega) (log_small (by omega) (by omega)) fun r SC r0 r1 hC fC => ?_
    obtain ⟨m, rfl⟩ := Int.eq_ofNat_of_zero_le r0
    have hm : m < sets2.length := by omega
    have em := at_nat hm
    have eC := fC _ _ q2a eB
    have eoC := fC _ _ oa eoB
    have sok := okA _ (List.getElem_mem hm)
    have pl := sok.len
    generalize sets2[m] = ps at em sok pl
    walk_at "dm"
    unfold tupN
    walk_at "dm"
    refine named_ok sok.lt (by omega) fun SD kD => ?_
    walk_at "dm"
    rw [List.length_map, ul]
    refine rest_ok (by omega) fun SE kE => ?_
    walk_at "dm"
    refine law_fixed_ok P W oth_lt (Nat.le_trans oth_len (by omega)) fun SF kF => ?_
    walk_at "dm"
    have kCF := (kD.trans kE).trans kF
    refine lever_words_ok G F L P (kCF _ _ eoC) W hp sok.lt (by omega) sok.inc fun SG kG => ?_
    walk_at "dm"
    have kCG := kCF.trans kG
    refine is_lever_ok G F L P (kCG _ _ eoC) W hp sok.lt (by omega) sok.inc fun SH kH => ?_
    walk_at "dm"
    refine flag_ok ?_
    walk_at "dm"
    refine first_lever_ok P W fun SI kI => ?_
    have kCI := (kCG.trans kH).trans kI
    walk_at "dm"
    refine s_eqRow ?_
    walk_at "dm"
    refine s_isRow ?_
    rw [lev_none]
    walk_at "dm"
    exact hnx _ _ ⟨_, _, _, _, _, rfl, hC.kp kCI, kCI _ _ eoC, kCI _ _ eC⟩
  rintro _ SB ⟨x7, x8, x10, x11, x12, rfl, hB, eoB, eB⟩
  refine ⟨trivial, ?_⟩
  walk_at "dm"
  refine no_set_ok hB P fun d SC N hC fC => ?_
  have eoC := fC _ _ oa eoB
  walk_at "dm"
  refine is_reason_no G F L P eoC W hp N.no fun SD kD => ?_
  walk_at "dm"
  refine s_isBB ?_
  walk_at "dm"
  refine is_lever_no G F L P (kD _ _ eoC) W hp (N.no.kp kD) fun SE kE => ?_
  walk_at "dm"
  refine s_isBB ?_
  walk_at "dm"
  refine refused_ok M G F L P (kE _ _ (kD _ _ eoC)) W hp ((N.kp kD).kp kE) fun SF => ?_
  exact hQ _
abbrev TT (K : PySem.W.Frag) (mg : Str → Option Value) : Prop := Tz fac fns sups PG_.main.file exns K mg
theorem fbc {K : PySem.W.Frag} {mg : Str → Option Value} (T : TT K mg) : FBc K := ⟨⟨T.cls 102, T.noat 103⟩, ⟨T.cls 102, T.noat 104⟩, ⟨T.cls 102, T.noat 105⟩, ⟨T.cls 102, T.noat 106⟩⟩
theorem fpr {K : PySem.W.Frag} {mg : Str → Option Value} (T : TT K mg) : FPr K := ⟨⟨T.cls 107, T.noat 108⟩, ⟨T.cls 107, T.noat 109⟩, ⟨T.cls 107, T.noat 110⟩, ⟨T.cls 107, T.noat 111⟩⟩
theorem ftr {K : PySem.W.Frag} {mg : Str → Option Value} (T : TT K mg) : FTr K := ⟨⟨T.cls 112, T.noat 113⟩, ⟨T.cls 112, T.noat 114⟩, ⟨T.cls 112, T.noat 115⟩, ⟨T.cls 112, T.noat 116⟩, ⟨T.cls 112, T.noat 117⟩, ⟨T.cls 112, T.noat 118⟩, ⟨T.cls 112, T.noat 119⟩, ⟨T.cls 112, T.noat 120⟩, ⟨T.cls 112, T.noat 121⟩, ⟨T.cls 112, T.noat 122⟩⟩
theorem ftl {K : PySem.W.Frag} {mg : Str → Option Value} (T : TT K mg) : FTl K := ⟨⟨T.cls 123, T.noat 124⟩, ⟨T.cls 123, T.noat 125⟩, ⟨T.cls 123, T.noat 126⟩, ⟨T.cls 123, T.noat 127⟩⟩
theorem exm_ {K : PySem.W.Frag} {mg : Str → Option Value} (T : TT K mg) : Exm K := ⟨T.exm 129⟩

end K02

set_option Elab.async false
set_option linter.all false
set_option maxRecDepth 100000
set_option maxHeartbeats 0
/-! E2: the end of k02. -/
open PySem PySem.W PySem.Calls PyProof.Rows
theorem PySem.Challenge.cw_toldonward_k02_whole_reasons_and_levers_holds : PySem.Challenge.rw_toldonward_k02_whole_reasons_and_levers.Holds := by
  w_on; o_law
  refine HandSHeadRun.head_any (r := OpenLaw.row PySem.Challenge.rw_toldonward_k02_whole_reasons_and_levers) (q := view (OpenLaw.row PySem.Challenge.rw_toldonward_k02_whole_reasons_and_levers).prog [61]) (H := K02.hk) (ob := K02.ob) (M := 5000) (loose := K02.loose) (d := HandSHeadRun.topDef (OpenLaw.row PySem.Challenge.rw_toldonward_k02_whole_reasons_and_levers).prog 61) (kwd := []) K02.ob_eq
    (by kernel_rfl) (fun s => by kernel_rfl) K02.run (by kernel_rfl) (by kernel_rfl) (by kernel_rfl) (by rfl) (by first | assumption | decide +kernel) (by decide +kernel) ⟨rfl, rfl, rfl, rfl, rfl, by decide +kernel⟩ ?hw ?hc
  case hw => w_witness2
  case hc =>
    refine DL.walk_of (l := PySem.Challenge.rw_toldonward_k02_whole_reasons_and_levers) (n := 63) (k := 28) (x := "_law_script") rfl (by decide) (by kernel_rfl) ⟨rfl, by decide, by decide⟩ ?F
    intro w mg fa h Y G hmg0
    obtain ⟨K, KX, c⟩ := Y
    have hmg : mg ("law" : PySem.Str) = some (.ref fa) := by
      have e : (HandSHeadRun.topDef (OpenLaw.row PySem.Challenge.rw_toldonward_k02_whole_reasons_and_levers).prog 61).name = ("law" : PySem.Str) := by kernel_rfl
      rw [← e]
      exact hmg0
    obtain ⟨T, fd, hb, hF⟩ := K02.facts (w := w) KX G hmg c
    exact ⟨K, fd, K02.sp_law K, KX, hb, fun ns hn S Q E hQ => K02.law_ok (K02.exm_ T) (K02.fbc T) (K02.fpr T) (K02.ftr T) (K02.ftl T) hn hQ, fun base => hF base⟩
