import PyProof.Rows.All
import Wide.All
import OpenK.AllK
import Wide.FinOn
import HandS.ForSpec
import HandS.ForMost
import HandS.Flow
import HandS.CallSlots
import HandS.Style
import HandS.TupAny
import HandS.IsInst
import HandS.Wide
import HandS.Lambda
import HandS.TupMul
import HandS.HeadWalk
import PyProof.ConsumeWalk
import HandS.Zip0
import HandS.Zip
import HandS.Walk
import HandS.TryOnly
import HandS.Small
import KE.KRevSl
import HandS.Conv
import HandS.NestedK
import KE.KMinKey
import HandS.SortKw
import HandS.Defaults
import HandS.Head0
import HandS.Head1
import HandS.Head2
import HandS.HeadEnd
import HandS.HeadHook1
import HandS.HeadHook2
import HandS.HeadHook3
import HandS.HeadHook4
import HandS.Words
import HandS.WordsExc
import Lean
import PySem.Challenge.RW_sumsmade_k76_by_a_number_bent
set_option Elab.async false
set_option linter.all false
set_option maxRecDepth 1000000
set_option maxHeartbeats 0
/-! MPA: values, store, the monad, the simulation relation. -/
namespace MP
open PySem PySem.Spec PyProof.Rows L2
abbrev St := L2.St

/-- values of the small interpreter: tuples, frozen lists and frozen instances are values -/
inductive D where
  | non | bl (b : Bool) | int (i : Int) | str (x : Str)
  | tup (xs : List D) | flst (xs : List D) | obj (c : Nat) (xs : List D)
  | ref (i : Nat) | fn (f : Nat) | cls (c : Nat) | ty (n : String)
  deriving Inhabited

/-- what stands in the store -/
inductive Cell where
  | lst (xs : List D)
  | dct (kvs : List (Key × D))
  | obj (c : Nat) (fs : List (Str × D))

abbrev Store := List Cell
/-- an own exception: its class, its fields -/
structure Exn where
  c : Nat
  fs : List (Str × D)
inductive R (α : Type) where
  | ok (a : α) (S : Store)
  | ex (e : Exn) (S : Store)
def M (α : Type) : Type := Store → Option (R α)
namespace M
variable {α β : Type}
def ret (a : α) : M α := fun S => some (.ok a S)
def bind (x : M α) (f : α → M β) : M β := fun S => match x S with
  | some (.ok a S') => f a S'
  | some (.ex e S') => some (.ex e S')
  | none => none
def stuck : M α := fun _ => none
def raise (e : Exn) : M α := fun S => some (.ex e S)
def guard (p : Prop) [Decidable p] (x : M α) : M α := if p then x else stuck
theorem bind_ok {x : M α} {f : α → M β} {S S' : Store} {a : α} (h : x S = some (.ok a S')) : bind x f S = f a S' := by unfold bind; rw [h]
theorem bind_ex {x : M α} {f : α → M β} {S S' : Store} {e : Exn} (h : x S = some (.ex e S')) : bind x f S = some (.ex e S') := by unfold bind; rw [h]
theorem ret_bind {f : α → M β} {a : α} : bind (ret a) f = f a := rfl
theorem bind_assoc {γ : Type} (x : M α) (f : α → M β) (g : β → M γ) : bind (bind x f) g = bind x fun a => bind (f a) g := by
  funext S
  unfold bind
  cases x S with
  | none => rfl
  | some r => cases r <;> rfl
end M

/-- the world: the written part, where functions and classes stand, the fields of frozen instances -/
structure GW where
  K : PySem.W.Frag
  fnA : Nat → Addr
  clA : Nat → Addr
  fields : Nat → List Str
  T : List (Addr × Str) := []
  C : List (Addr × Addr) := []

/-- a tuple: one that was made, or a constant of the text -/
def TqT (K : PySem.W.Frag) (F : Hp) (a : Addr) (xs : List V) : Prop :=
  F a = some (.tup xs) ∨ ∃ (o : Obj) (its : Array Value) (n : Nat), K.lookup a = some o ∧ o.cls = .type "tuple" ∧ o.data = .seq its n ∧ its.size ≤ sizeLine ∧ Vals xs its.toList
theorem TqT.sq {K : PySem.W.Frag} {F H : Hp} {a : Addr} {xs : List V} (h : TqT K F a xs) (sub : ∀ a o, F a = some o → H a = some o) : SqT K H a xs := by
  rcases h with h | h
  · exact .inl (.inl (sub _ _ h))
  · exact .inr h
mutual
def relD (G : GW) (m : List Addr) (F : Hp) : D → V → Prop
  | .non, v => v = .non
  | .bl b, v => v = .bl b
  | .int i, v => v = .int i
  | .str x, v => v = .str x
  | .tup xs, v => ∃ a vs, v = .ref a ∧ TqT G.K F a vs ∧ relDs G m F xs vs
  | .flst xs, v => ∃ a vs, v = .ref a ∧ SqL G.K F a vs ∧ relDs G m F xs vs
  | .obj c xs, v => ∃ a dx fs, v = .ref a ∧ F a = some (.ins (G.clA c) dx fs) ∧ fs.map (·.1) = G.fields c ∧ relDs G m F xs (fs.map (·.2))
  | .ref i, v => ∃ a, v = .ref a ∧ m[i]? = some a
  | .fn f, v => v = .ref (G.fnA f)
  | .cls c, v => v = .ref (G.clA c)
  | .ty n, v => v = .ty n
def relDs (G : GW) (m : List Addr) (F : Hp) : List D → List V → Prop
  | [], vs => vs = []
  | d :: ds, vs => ∃ v r, vs = v :: r ∧ relD G m F d v ∧ relDs G m F ds r
end

/-- the world grows -/
structure Ext (m : List Addr) (F : Hp) (m' : List Addr) (F' : Hp) : Prop where
  pre : ∀ (i : Nat) a, m[i]? = some a → m'[i]? = some a
  sub : ∀ a o, F a = some o → F' a = some o
theorem Ext.refl {m : List Addr} {F : Hp} : Ext m F m F := ⟨fun _ _ h => h, fun _ _ h => h⟩
theorem Ext.trans {m m1 m2 : List Addr} {F F1 F2 : Hp} (a : Ext m F m1 F1) (b : Ext m1 F1 m2 F2) : Ext m F m2 F2 := ⟨fun i x h => b.pre i x (a.pre i x h), fun x o h => b.sub x o (a.sub x o h)⟩
theorem Ext.rd {m m' : List Addr} {F F' : Hp} (e : Ext m F m' F') {a : Addr} {u : HO} (h : Rd F a u) : Rd F' a u := by
  rcases h with h | ⟨o, h⟩
  · exact .inl (e.sub _ _ h)
  · exact .inr ⟨o, e.sub _ _ h⟩
theorem Ext.sqT {K : PySem.W.Frag} {m m' : List Addr} {F F' : Hp} (e : Ext m F m' F') {a : Addr} {xs : List V} (h : TqT K F a xs) : TqT K F' a xs := by
  rcases h with h | h
  · exact .inl (e.sub _ _ h)
  · exact .inr h
theorem Ext.sqL {K : PySem.W.Frag} {m m' : List Addr} {F F' : Hp} (e : Ext m F m' F') {a : Addr} {xs : List V} (h : SqL K F a xs) : SqL K F' a xs := by
  rcases h with h | h
  · exact .inl (e.rd h)
  · exact .inr h
mutual
theorem relD.mono {G : GW} {m m' : List Addr} {F F' : Hp} (e : Ext m F m' F') : ∀ {d : D} {v : V}, relD G m F d v → relD G m' F' d v
  | .non, _, h => h
  | .bl _, _, h => h
  | .int _, _, h => h
  | .str _, _, h => h
  | .tup _, _, ⟨a, vs, h1, h2, h3⟩ => ⟨a, vs, h1, e.sqT h2, relDs.mono e h3⟩
  | .flst _, _, ⟨a, vs, h1, h2, h3⟩ => ⟨a, vs, h1, e.sqL h2, relDs.mono e h3⟩
  | .obj _ _, _, ⟨a, dx, fs, h1, h2, h3, h4⟩ => ⟨a, dx, fs, h1, e.sub _ _ h2, h3, relDs.mono e h4⟩
  | .ref _, _, ⟨a, h1, h2⟩ => ⟨a, h1, e.pre _ _ h2⟩
  | .fn _, _, h => h
  | .cls _, _, h => h
  | .ty _, _, h => h
theorem relDs.mono {G : GW} {m m' : List Addr} {F F' : Hp} (e : Ext m F m' F') : ∀ {ds : List D} {vs : List V}, relDs G m F ds vs → relDs G m' F' ds vs
  | [], _, h => h
  | _ :: _, _, ⟨v, r, h1, h2, h3⟩ => ⟨v, r, h1, relD.mono e h2, relDs.mono e h3⟩
end
section
variable {G : GW} {m : List Addr} {F : Hp}
theorem relDs.nil : relDs G m F [] [] := rfl
theorem relDs.cons {d : D} {v : V} {ds : List D} {vs : List V} (h : relD G m F d v) (t : relDs G m F ds vs) : relDs G m F (d :: ds) (v :: vs) := ⟨v, vs, rfl, h, t⟩
theorem relDs.length : ∀ {ds : List D} {vs : List V}, relDs G m F ds vs → ds.length = vs.length
  | [], _, h => by rw [show _ = [] from h]; rfl
  | _ :: _, _, ⟨_, _, h1, _, h3⟩ => by rw [h1, List.length_cons, List.length_cons, relDs.length h3]
theorem relDs.get : ∀ {ds : List D} {vs : List V} {i : Nat} {d : D}, relDs G m F ds vs → ds[i]? = some d → ∃ v, vs[i]? = some v ∧ relD G m F d v
  | [], _, _, _, _, e => by simp at e
  | _ :: _, _, 0, _, ⟨v, r, h1, h2, _⟩, e => by
    simp at e; subst e; exact ⟨v, by rw [h1]; rfl, h2⟩
  | _ :: _, _, i + 1, d, ⟨v, r, h1, _, h3⟩, e => by
    obtain ⟨w, hw, q⟩ := relDs.get (i := i) (d := d) h3 (by simpa using e)
    exact ⟨w, by rw [h1]; simpa using hw, q⟩
theorem relDs.get' {ds : List D} {vs : List V} {i : Nat} {v : V} (h : relDs G m F ds vs) (e : vs[i]? = some v) : ∃ d, ds[i]? = some d ∧ relD G m F d v := by
  have hl : i < ds.length := by rw [h.length]; exact (List.getElem?_eq_some_iff.mp e).1
  obtain ⟨w, hw, q⟩ := h.get (List.getElem?_eq_getElem hl)
  rw [e] at hw; cases hw
  exact ⟨_, List.getElem?_eq_getElem hl, q⟩
theorem relDs.append : ∀ {ds es : List D} {vs ws : List V}, relDs G m F ds vs → relDs G m F es ws → relDs G m F (ds ++ es) (vs ++ ws)
  | [], _, _, _, h, t => by rw [show _ = [] from h]; exact t
  | _ :: _, _, _, _, ⟨v, r, h1, h2, h3⟩, t => ⟨v, r ++ _, by rw [h1]; rfl, h2, relDs.append h3 t⟩
theorem relDs.take : ∀ {ds : List D} {vs : List V} (n : Nat), relDs G m F ds vs → relDs G m F (ds.take n) (vs.take n)
  | _, _, 0, _ => by simp [relDs]
  | [], _, _ + 1, h => by rw [show _ = [] from h]; rfl
  | _ :: _, _, n + 1, ⟨v, r, h1, h2, h3⟩ => ⟨v, r.take n, by rw [h1]; rfl, h2, relDs.take n h3⟩
theorem relDs.drop : ∀ {ds : List D} {vs : List V} (n : Nat), relDs G m F ds vs → relDs G m F (ds.drop n) (vs.drop n)
  | _, _, 0, h => h
  | [], _, _ + 1, h => by rw [show _ = [] from h]; rfl
  | _ :: _, _, n + 1, ⟨v, r, h1, h2, h3⟩ => by rw [h1]; exact relDs.drop n h3
theorem relDs.set {x : D} {v : V} (hx : relD G m F x v) : ∀ {ds : List D} {vs : List V} (i : Nat), relDs G m F ds vs → relDs G m F (ds.set i x) (vs.set i v)
  | [], _, _, h => by rw [show _ = [] from h]; rfl
  | _ :: _, _, 0, ⟨w, r, h1, _, h3⟩ => ⟨v, r, by rw [h1]; rfl, hx, h3⟩
  | _ :: _, _, i + 1, ⟨w, r, h1, h2, h3⟩ => ⟨w, r.set i v, by rw [h1]; rfl, h2, relDs.set hx i h3⟩
theorem relDs.reverse : ∀ {ds : List D} {vs : List V}, relDs G m F ds vs → relDs G m F ds.reverse vs.reverse
  | [], _, h => by rw [show _ = [] from h]; rfl
  | _ :: _, _, ⟨v, r, h1, h2, h3⟩ => by
    rw [h1, List.reverse_cons, List.reverse_cons]
    exact (relDs.reverse h3).append ⟨v, [], rfl, h2, rfl⟩
theorem relDs.of_get : ∀ {ds : List D} {vs : List V}, ds.length = vs.length → (∀ (i : Nat) d v, ds[i]? = some d → vs[i]? = some v → relD G m F d v) → relDs G m F ds vs
  | [], [], _, _ => rfl
  | [], _ :: _, h, _ => by simp at h
  | _ :: _, [], h, _ => by simp at h
  | d :: ds, v :: vs, h, q => ⟨v, vs, rfl, q 0 d v rfl rfl, relDs.of_get (by simpa using h) fun i d' v' h1 h2 => q (i + 1) d' v' (by simpa using h1) (by simpa using h2)⟩
end

/-- a cell of the store and what stands at its address -/
def relC (G : GW) (m : List Addr) (F : Hp) : Cell → Option HO → Prop
  | .lst ds, o => ∃ vs, o = some (.lst vs) ∧ relDs G m F ds vs
  | .dct kvs, o => ∃ ws, o = some (.dK ws) ∧ kvs.map (·.1) = ws.map (·.1) ∧ relDs G m F (kvs.map (·.2)) (ws.map (·.2))
  | .obj c fs, o => ∃ dx ws, o = some (.ins (G.clA c) dx ws) ∧ fs.map (·.1) = ws.map (·.1) ∧ relDs G m F (fs.map (·.2)) (ws.map (·.2))
theorem relC.mono {G : GW} {m m' : List Addr} {F F' : Hp} (e : Ext m F m' F') : ∀ {c : Cell} {o : Option HO}, relC G m F c o → relC G m' F' c o
  | .lst _, _, ⟨vs, h1, h2⟩ => ⟨vs, h1, h2.mono e⟩
  | .dct _, _, ⟨ws, h1, h2, h3⟩ => ⟨ws, h1, h2, h3.mono e⟩
  | .obj _ _, _, ⟨dx, ws, h1, h2, h3⟩ => ⟨dx, ws, h1, h2, h3.mono e⟩
theorem relC.mut {G : GW} {m : List Addr} {F : Hp} {c : Cell} {o : Option HO} (h : relC G m F c o) : Mut o := by
  cases c with
  | lst _ => obtain ⟨_, rfl, _⟩ := h; trivial
  | dct _ => obtain ⟨_, rfl, _⟩ := h; trivial
  | obj _ _ => obtain ⟨_, _, rfl, _⟩ := h; trivial

/-- the tables of the defs that make lambdas: they stand in H, neither among the frozen objects nor the cells -/
def TabG (T : List (Addr × Str)) (m : List Addr) (F H : Hp) : Prop := LamX.Tabs T H ∧ ∀ p ∈ T, F p.1 = none ∧ p.1 ∉ m
theorem TabG.ne {T : List (Addr × Str)} {m : List Addr} {F H : Hp} (t : TabG T m F H) {p : Addr} (h : H p = none) : ∀ q ∈ T, q.1 ≠ p := fun q hq z => by
  obtain ⟨ps, h1, _⟩ := t.1 q hq
  rw [z, h] at h1; cases h1
theorem TabG.newF {T : List (Addr × Str)} {m : List Addr} {F H : Hp} {o : HO} (t : TabG T m F H) {p : Addr} (h : H p = none) : TabG T m (upd F p o) (upd H p o) :=
  ⟨t.1.ext fun b u e => by rw [upd_ne (ne_of_none e h)]; exact e, fun q hq => ⟨by rw [upd_ne (t.ne h q hq)]; exact (t.2 q hq).1, (t.2 q hq).2⟩⟩
theorem TabG.newC {T : List (Addr × Str)} {m : List Addr} {F H : Hp} {o : HO} (t : TabG T m F H) {p : Addr} (h : H p = none) : TabG T (m ++ [p]) F (upd H p o) :=
  ⟨t.1.ext fun b u e => by rw [upd_ne (ne_of_none e h)]; exact e, fun q hq => ⟨(t.2 q hq).1, fun z => by
    rcases List.mem_append.mp z with z | z
    · exact (t.2 q hq).2 z
    · exact t.ne h q hq (by simpa using z)⟩⟩
theorem TabG.write {T : List (Addr × Str)} {m : List Addr} {F H : Hp} {o : HO} (t : TabG T m F H) {a : Addr} (ha : a ∈ m) (hx : ∀ z, H a ≠ some (.ext z)) : TabG T m F (upd H a o) := by
  refine ⟨fun q hq => ?_, t.2⟩
  obtain ⟨ps, h1, h2, h3⟩ := t.1 q hq
  refine ⟨ps, by rw [upd_ne (fun (z : q.1 = a) => (t.2 q hq).2 (z ▸ ha))]; exact h1, h2, fun pos cv hc => ?_⟩
  obtain ⟨c, e1, e2⟩ := h3 pos cv hc
  refine ⟨c, e1, ?_⟩
  rw [upd_ne (fun (z : c = a) => hx _ (z ▸ e2))]
  exact e2
theorem TabG.sub {T : List (Addr × Str)} {m m' : List Addr} {F H : Hp} (t : TabG T m F H) (h : ∀ a ∈ m', a ∈ m) : TabG T m' F H := ⟨t.1, fun q hq => ⟨(t.2 q hq).1, fun z => (t.2 q hq).2 (h _ z)⟩⟩
theorem relC.noext {G : GW} {m : List Addr} {F : Hp} {c : Cell} {o : Option HO} (h : relC G m F c o) : ∀ z, o ≠ some (.ext z) := fun z e => by
  subst e
  cases c with
  | lst _ => obtain ⟨_, h, _⟩ := h; cases h
  | dct _ => obtain ⟨_, h, _⟩ := h; cases h
  | obj _ _ => obtain ⟨_, _, h, _⟩ := h; cases h
/-- the simulation: m the cells' addresses, F what never changes -/
structure Sim (G : GW) (m : List Addr) (F : Hp) (S : Store) (H : Hp) : Prop where
  sub : ∀ a o, F a = some o → H a = some o
  nod : m.Nodup
  len : m.length = S.length
  fre : ∀ a ∈ m, F a = none
  cel : ∀ (i : Nat) a c, m[i]? = some a → S[i]? = some c → relC G m F c (H a)
  tab : TabG G.T m F H

section
variable {G : GW} {m : List Addr} {F : Hp} {S : Store} {H : Hp}
theorem Sim.ext (s : Sim G m F S H) : ∀ a o, F a = some o → H a = some o := s.sub
theorem Sim.sqT {K : PySem.W.Frag} (s : Sim G m F S H) {a : Addr} {xs : List V} (h : TqT K F a xs) : SqT K H a xs := h.sq s.sub
theorem Sim.sqL {K : PySem.W.Frag} (s : Sim G m F S H) {a : Addr} {xs : List V} (h : SqL K F a xs) : SqL K H a xs := (Ext.mk (m := []) (m' := []) (fun _ _ h => h) s.sub).sqL h
theorem Sim.at (s : Sim G m F S H) {i : Nat} {a : Addr} (h : m[i]? = some a) : ∃ c, S[i]? = some c ∧ relC G m F c (H a) := by
  have hi : i < S.length := by rw [← s.len]; exact (List.getElem?_eq_some_iff.mp h).1
  exact ⟨S[i], List.getElem?_eq_getElem hi, s.cel i a _ h (List.getElem?_eq_getElem hi)⟩
theorem Sim.at' (s : Sim G m F S H) {i : Nat} {c : Cell} (h : S[i]? = some c) : ∃ a, m[i]? = some a ∧ relC G m F c (H a) := by
  have hi : i < m.length := by rw [s.len]; exact (List.getElem?_eq_some_iff.mp h).1
  exact ⟨m[i], List.getElem?_eq_getElem hi, s.cel i _ c (List.getElem?_eq_getElem hi) h⟩
theorem Sim.there (s : Sim G m F S H) {a : Addr} (h : a ∈ m) : ∃ o, H a = Option.some o := by
  obtain ⟨i, hi, e⟩ := List.getElem_of_mem h
  obtain ⟨c, _, hc⟩ := s.at (i := i) (a := a) (by rw [List.getElem?_eq_getElem hi, e])
  cases c with
  | lst _ => obtain ⟨_, h, _⟩ := hc; exact ⟨_, h⟩
  | dct _ => obtain ⟨_, h, _⟩ := hc; exact ⟨_, h⟩
  | obj _ _ => obtain ⟨_, _, h, _⟩ := hc; exact ⟨_, h⟩
theorem Sim.notin (s : Sim G m F S H) {p : Addr} (h : H p = none) : p ∉ m := fun z => by
  obtain ⟨o, e⟩ := s.there z
  rw [h] at e; cases e
theorem Sim.fnone (s : Sim G m F S H) {p : Addr} (h : H p = none) : F p = none := by
  cases e : F p with
  | none => rfl
  | some o => rw [s.sub p o e] at h; cases h
/-- a new frozen object -/
theorem Sim.newF (s : Sim G m F S H) {p : Addr} {o : HO} (h : H p = none) : Sim G m (upd F p o) S (upd H p o) ∧ Ext m F m (upd F p o) := by
  have e : Ext m F m (upd F p o) := ⟨fun _ _ h => h, fun a u q => by rw [upd_ne (ne_of_none q (s.fnone h))]; exact q⟩
  refine ⟨⟨fun a u q => ?_, s.nod, s.len, fun a ha => ?_, fun i a c h1 h2 => ?_, s.tab.newF h⟩, e⟩
  · by_cases ha : a = p
    · subst ha; rw [upd_same] at q ⊢; exact q
    · rw [upd_ne ha] at q ⊢; exact s.sub a u q
  · rw [upd_ne (fun (z : a = p) => s.notin h (z ▸ ha))]; exact s.fre a ha
  · rw [upd_ne (fun (z : a = p) => s.notin h (z ▸ List.mem_of_getElem? h1))]
    exact (s.cel i a c h1 h2).mono e
/-- a new cell -/
theorem Sim.newC (s : Sim G m F S H) {p : Addr} {o : HO} {c : Cell} (h : H p = none) (hc : relC G m F c (Option.some o)) : Sim G (m ++ [p]) F (S ++ [c]) (upd H p o) ∧ Ext m F (m ++ [p]) F := by
  have e : Ext m F (m ++ [p]) F := ⟨fun i a q => by rw [List.getElem?_append_left (List.getElem?_eq_some_iff.mp q).1]; exact q, fun _ _ h => h⟩
  refine ⟨⟨fun a u q => ?_, ?_, by simp [s.len], fun a ha => ?_, fun i a c' h1 h2 => ?_, s.tab.newC h⟩, e⟩
  · rw [upd_ne (ne_of_none q (s.fnone h))]; exact s.sub a u q
  · rw [List.nodup_append]
    refine ⟨s.nod, by simp, fun a ha b hb => ?_⟩
    have : b = p := by simpa using hb
    subst this
    exact fun z => s.notin h (z ▸ ha)
  · rcases List.mem_append.mp ha with ha | ha
    · exact s.fre a ha
    · have : a = p := by simpa using ha
      subst this; exact s.fnone h
  · by_cases hi : i < m.length
    · rw [List.getElem?_append_left hi] at h1
      rw [List.getElem?_append_left (by rw [← s.len]; exact hi)] at h2
      rw [upd_ne (fun (z : a = p) => s.notin h (z ▸ List.mem_of_getElem? h1))]
      exact (s.cel i a c' h1 h2).mono e
    · rw [List.getElem?_append_right (by omega)] at h1
      rw [List.getElem?_append_right (by rw [← s.len]; omega)] at h2
      have hi0 : i - m.length = 0 := by
        have := (List.getElem?_eq_some_iff.mp h1).1
        simp at this; omega
      rw [hi0] at h1
      rw [show i - S.length = 0 by rw [← s.len]; exact hi0] at h2
      simp at h1 h2
      subst h1 h2
      rw [upd_same]
      exact hc.mono e
/-- a cell is written -/
theorem Sim.write (s : Sim G m F S H) {i : Nat} {a : Addr} {o : HO} {c : Cell} (h : m[i]? = Option.some a) (hc : relC G m F c (Option.some o)) : Sim G m F (S.set i c) (upd H a o) := by
  have ha : a ∈ m := List.mem_of_getElem? h
  obtain ⟨c0, _, hc0⟩ := s.at h
  refine ⟨fun b u q => ?_, s.nod, by simp [s.len], s.fre, fun j b c' h1 h2 => ?_, s.tab.write ha hc0.noext⟩
  · rw [upd_ne (ne_of_none q (s.fre a ha))]; exact s.sub b u q
  · by_cases hj : j = i
    · subst hj
      rw [h] at h1; cases h1
      have hl : j < S.length := by rw [← s.len]; exact (List.getElem?_eq_some_iff.mp h).1
      rw [List.getElem?_set_self hl] at h2; cases h2
      rw [upd_same]; exact hc
    · rw [List.getElem?_set_ne (Ne.symm hj)] at h2
      have hb : b ≠ a := by
        rintro rfl
        obtain ⟨l1, e1⟩ := List.getElem?_eq_some_iff.mp h
        obtain ⟨l2, e2⟩ := List.getElem?_eq_some_iff.mp h1
        exact hj ((List.getElem_inj s.nod).mp (e2.trans e1.symm))
      rw [upd_ne hb]
      exact s.cel j b c' h1 h2
end

/-- slots: what the interpreter knows of them -/
abbrev En := List (Option D)
structure relE (G : GW) (m : List Addr) (F : Hp) (ρ : En) (σ : St) : Prop where
  len : ρ.length = σ.length
  get : ∀ (i : Nat) d, ρ[i]? = some (some d) → ∃ v, σ[i]? = some (some v) ∧ relD G m F d v
section
variable {G : GW} {m m' : List Addr} {F F' : Hp} {ρ : En} {σ : St}
theorem relE.mono (e : Ext m F m' F') (r : relE G m F ρ σ) : relE G m' F' ρ σ := ⟨r.len, fun i d h => let ⟨v, h1, h2⟩ := r.get i d h; ⟨v, h1, h2.mono e⟩⟩
theorem relE.set (r : relE G m F ρ σ) {d : D} {v : V} (i : Nat) (h : relD G m F d v) : relE G m F (ρ.set i (some d)) (σ.set i (some v)) := by
  refine ⟨by simp [r.len], fun j d' e => ?_⟩
  by_cases hj : i = j
  · subst hj
    have hl : i < ρ.length := by have := (List.getElem?_eq_some_iff.mp e).1; simpa using this
    rw [List.getElem?_set_self hl] at e; cases e
    exact ⟨v, by rw [List.getElem?_set_self (by rw [← r.len]; exact hl)], h⟩
  · rw [List.getElem?_set_ne hj] at e
    rw [List.getElem?_set_ne hj]
    exact r.get j d' e
end

/-- what the interpreter's run says of the heap: Q behind its end, W at an exception -/
def Run (G : GW) (W : WX) (σ : St) {α β : Type} (rel : List Addr → Hp → α → β → Prop) (x : M α) (m : List Addr) (F : Hp) (S : Store) (Q : β → Hp → Prop) : Prop :=
  ∃ r, x S = some r ∧ match r with
    | .ok a S' => ∀ m' F' H' b, Ext m F m' F' → Sim G m' F' S' H' → rel m' F' a b → Q b H'
    | .ex e S' => ∀ m' F' H' d ws, Ext m F m' F' → Sim G m' F' S' H' → F' d = some (.xd ws) → e.fs.map (·.1) = ws.map (·.1) → relDs G m' F' (e.fs.map (·.2)) (ws.map (·.2)) → W (.ref (G.clA e.c)) (some d) σ H'
section
variable {G : GW} {W : WX} {σ : St} {α β γ δ : Type} {rel : List Addr → Hp → α → β → Prop} {rel' : List Addr → Hp → γ → δ → Prop} {x : M α} {f : α → M γ} {m m' : List Addr} {F F' : Hp} {S S' : Store} {H : Hp}
theorem Run.imp {Q Q' : β → Hp → Prop} (h : Run G W σ rel x m F S Q) (q : ∀ b H, Q b H → Q' b H) : Run G W σ rel x m F S Q' := by
  obtain ⟨r, e, h⟩ := h
  refine ⟨r, e, ?_⟩
  cases r with
  | ok a S' => exact fun m' F' H' b h1 h2 h3 => q _ _ (h m' F' H' b h1 h2 h3)
  | ex _ _ => exact h
theorem Run.bind {Q : δ → Hp → Prop} (h : Run G W σ rel' (M.bind x f) m F S Q) :
    Run G W σ rel x m F S fun b H' => ∃ m' F' S' a, Ext m F m' F' ∧ Sim G m' F' S' H' ∧ rel m' F' a b ∧ Run G W σ rel' (f a) m' F' S' Q := by
  obtain ⟨r, e, h⟩ := h
  cases ex : x S with
  | none => rw [show M.bind x f S = none by unfold M.bind; rw [ex]] at e; cases e
  | some r1 =>
    cases r1 with
    | ok a S1 =>
      rw [M.bind_ok ex] at e
      refine ⟨_, ex, fun m1 F1 H1 b h1 h2 h3 => ⟨m1, F1, S1, a, h1, h2, h3, r, e, ?_⟩⟩
      cases r with
      | ok c S2 => exact fun m2 F2 H2 d q1 q2 q3 => h m2 F2 H2 d (h1.trans q1) q2 q3
      | ex x S2 => exact fun m2 F2 H2 d ws q1 q2 q3 => h m2 F2 H2 d ws (h1.trans q1) q2 q3
    | ex y S1 =>
      rw [M.bind_ex ex] at e
      cases e
      exact ⟨_, ex, h⟩
theorem Run.ret {Q : β → Hp → Prop} {a : α} {b : β} (h : Run G W σ rel (M.ret a) m F S Q) (s : Sim G m F S H) (r : rel m F a b) : Q b H := by
  obtain ⟨_, e, h⟩ := h
  cases e
  exact h m F H b .refl s r
theorem Run.stuck {Q : β → Hp → Prop} (h : Run G W σ rel (M.stuck : M α) m F S Q) : False := by
  obtain ⟨_, e, _⟩ := h
  cases e
theorem Run.guard {Q : β → Hp → Prop} {p : Prop} [Decidable p] (h : Run G W σ rel (M.guard p x) m F S Q) : p ∧ Run G W σ rel x m F S Q := by
  unfold M.guard at h
  split at h
  · exact ⟨by assumption, h⟩
  · exact h.stuck.elim
/-- the end is known -/
theorem Run.ok {Q : β → Hp → Prop} {a : α} (h : Run G W σ rel x m F S Q) (e : x S = some (.ok a S')) : ∀ m' F' H' b, Ext m F m' F' → Sim G m' F' S' H' → rel m' F' a b → Q b H' := by
  obtain ⟨_, e', h⟩ := h
  rw [e] at e'; cases e'
  exact h
end

/-- the readings -/
def tM (G : GW) (W : WX) {α β : Type} (rel : List Addr → Hp → α → β → Prop) (f : En → M α) : St → Hp → (β → Hp → Prop) → Prop :=
  fun σ H Q => ∃ m F ρ S, Sim G m F S H ∧ relE G m F ρ σ ∧ Run G W σ rel (f ρ) m F S Q
abbrev tE (G : GW) (W : WX) (f : En → M D) : TE := tM G W (relD G) f
abbrev tA (G : GW) (W : WX) (f : En → M (List D)) : TA := tM G W (relDs G) f
def relB : List Addr → Hp → Bool → Bool → Prop := fun _ _ a b => a = b
abbrev tT (G : GW) (W : WX) (f : En → M Bool) : TT := tM G W relB f
/-- a step of a reading: the first part, then the rest -/
theorem tM.bind {G : GW} {W : WX} {α β γ δ : Type} {rel : List Addr → Hp → α → β → Prop} {rel' : List Addr → Hp → γ → δ → Prop} {f : En → M α} {g : En → α → M γ} {σ : St} {H : Hp} {Q : δ → Hp → Prop}
    (h : tM G W rel' (fun ρ => M.bind (f ρ) (g ρ)) σ H Q) : tM G W rel f σ H fun b H' => ∃ m F ρ S a, Sim G m F S H' ∧ relE G m F ρ σ ∧ rel m F a b ∧ Run G W σ rel' (g ρ a) m F S Q := by
  obtain ⟨m, F, ρ, S, s, e, r⟩ := h
  exact ⟨m, F, ρ, S, s, e, r.bind.imp fun b H' ⟨m', F', S', a, x, s', q, r'⟩ => ⟨m', F', ρ, S', a, s', e.mono x, q, r'⟩⟩
theorem tM.imp {G : GW} {W : WX} {α β : Type} {rel : List Addr → Hp → α → β → Prop} {f : En → M α} {σ : St} {H : Hp} {Q Q' : β → Hp → Prop} (h : tM G W rel f σ H Q) (q : ∀ b H, Q b H → Q' b H) : tM G W rel f σ H Q' := by
  obtain ⟨m, F, ρ, S, s, e, r⟩ := h
  exact ⟨m, F, ρ, S, s, e, r.imp q⟩
theorem PEimp {X : Cx} {e : Expr} {t t' : TE} (h : PE X e t) (w : ∀ σ H Q, t' σ H Q → t σ H Q) : PE X e t' := ⟨fun pins s σ H Q I q => h.run pins s σ H Q I (w σ H Q q)⟩
theorem PTimp {X : Cx} {e : Expr} {t t' : TT} (h : PT X e t) (w : ∀ σ H Q, t' σ H Q → t σ H Q) : PT X e t' := ⟨fun pins s σ H Q I q => h.run pins s σ H Q I (w σ H Q q)⟩
theorem PWimp {X : Cx} {e : Expr} {t t' : TT} (h : PW X e t) (w : ∀ σ H Q, t' σ H Q → t σ H Q) : PW X e t' := ⟨fun wh pins s σ H Q I q => h.run wh pins s σ H Q I (w σ H Q q)⟩
theorem PAimp {X : Cx} {e : List Expr} {t t' : TA} (h : PA X e t) (w : ∀ σ H Q, t' σ H Q → t σ H Q) : PA X e t' := ⟨fun p pins s σ H Q I q => h.run p pins s σ H Q I (w σ H Q q)⟩
theorem PSimp {X : Cx} {e : Stmt} {t t' : TS} (h : PS X e t) (w : ∀ D σ H, t' D σ H → t D σ H) : PS X e t' := ⟨fun pins s σ H D I q => h.run pins s σ H D I (w D σ H q)⟩
theorem PSsimp {X : Cx} {e : List Stmt} {t t' : TS} (h : PSs X e t) (w : ∀ D σ H, t' D σ H → t D σ H) : PSs X e t' := ⟨fun pins s σ H D I q => h.run pins s σ H D I (w D σ H q)⟩
end MP

/-! MPTm: tuple * 1 is the tuple itself. -/
namespace MP
open PySem PySem.Spec PyProof.Rows L2
theorem tuple_mul1 (l : Addr) (items : Array Value) (n : Nat) (dd : Option Addr) (sl : Array (Option Value)) (u : Tok) :
    Meets (Builtin.«tuple.__mul__» ⟨[.ref l, .int 1 u], []⟩) (fun _ R s => s.heap.get? l = some { cls := .type "tuple", dict := dd, data := .seq items n, slots := sl } ∧ R (.ok (.ret (.ref l))) s) :=
  .of_wp fun prog w A R s h => by
    obtain ⟨hp, g, d, tk, os⟩ := s
    obtain ⟨hl, h⟩ := h
    have f1 := AutoSeq1.idx_int
    have c1 : (items.isEmpty || (1 : Int) == 1) = true := by cases items.isEmpty <;> rfl
    wp_walk using wpAny_loadPart' hl
    repeat (first
      | (refine wpAny_ite_true (decide_eq_true c1) ?_; wp_walk using wpAny_loadPart' hl)
      | (refine wpAny_ite_false (decide_eq_false (by decide)) ?_; wp_walk using wpAny_loadPart' hl))
    exact ⟨_, rfl, h⟩
def rRep1 (K : PySem.W.Frag) : R2 := fun x y H Q => ∃ l xs, x = .ref l ∧ y = .int 1 ∧ SqT K H l xs ∧ Q (.ref l) H
theorem op_rep1 {X : Cx} : OpR X (binaryOp .Mult) (rRep1 X.K) := by
  intro pins s σ H x y v u Q I rx ry h
  obtain ⟨l, xs, rfl, rfl, hT, q⟩ := h
  cases rx
  obtain ⟨t, rfl⟩ := ry
  obtain ⟨its, r, ⟨⟨cls, dd, data, sl⟩, ho, hc, n, hd⟩, hs⟩ := I.tuple hT
  simp only at hc hd
  subst hc hd
  exact wpAny_binaryOp_repeat_ref (T := "tuple") (U := "int") (by decide) ⟨_, ho, rfl⟩ (fun s' => typeIs_int s' 1 t) noFill_tuple_mul F.fills_int_mul F.slot_int_rmul repeat_tuple F.slot_int_index.lookup
    (call_meets F.slot_int_rmul (typeIs_int s 1 t) F.entry_int_rmul (F.args_int_rmul_2 _ _) (int_rmul_tuple 1 t l its.toArray n dd sl)
      ⟨ho, rfl, ⟨_, ho, rfl⟩, call_meets F.slot_tuple_mul ⟨_, ho, rfl⟩ F.entry_tuple_mul (F.args_tuple_mul_2 _ _) (tuple_mul1 l its.toArray n dd sl t) ⟨ho, ⟨.ref l, H, I, rfl, q⟩⟩⟩)
end MP

/-! MPB: operators by values. -/
namespace MP
open PySem PySem.Spec PyProof.Rows L2

/-! ### data for == -/
mutual
/-- a value without instances, functions or cells, as the library's data -/
def toP : D → Option PyData
  | .non => some .none
  | .bl b => some (.bool b)
  | .int i => some (.int i)
  | .str x => if PyData.strOk x = true then some (.str x) else none
  | .tup xs => (toPs xs).map .tuple
  | .flst xs => (toPs xs).map .list
  | _ => none
def toPs : List D → Option (List PyData)
  | [] => some []
  | d :: ds => match toP d, toPs ds with
    | some p, some ps => some (p :: ps)
    | _, _ => none
end
/-- .. or a list that stands in the store, of such -/
def toPS (S : Store) : D → Option PyData
  | .ref i => (match S[i]? with
    | some (.lst xs) => (toPs xs).map .list
    | _ => none)
  | d => toP d
mutual
theorem toP.lay : ∀ {d : D} {p : PyData}, toP d = some p → p.canLay0 = true
  | .non, _, h => by cases h; rfl
  | .bl _, _, h => by cases h; rfl
  | .int _, _, h => by cases h; rfl
  | .str x, _, h => by
    unfold toP at h
    split at h
    · cases h; assumption
    · cases h
  | .tup xs, p, h => by
    unfold toP at h
    obtain ⟨ps, h1, rfl⟩ := Option.map_eq_some_iff.mp h
    exact toPs.lay h1
  | .flst xs, p, h => by
    unfold toP at h
    obtain ⟨ps, h1, rfl⟩ := Option.map_eq_some_iff.mp h
    exact toPs.lay h1
  | .obj _ _, _, h => by cases h
  | .ref _, _, h => by cases h
  | .fn _, _, h => by cases h
  | .cls _, _, h => by cases h
  | .ty _, _, h => by cases h
theorem toPs.lay : ∀ {ds : List D} {ps : List PyData}, toPs ds = some ps → PyData.canLayAll0 ps = true
  | [], _, h => by cases h; rfl
  | d :: ds, _, h => by
    unfold toPs at h
    split at h
    · rename_i p ps h1 h2
      cases h
      show (p.canLay0 && PyData.canLayAll0 ps) = true
      rw [toP.lay h1, toPs.lay h2]; rfl
    · cases h
end
section
variable {G : GW} {m : List Addr} {F H : Hp} {S : Store}
mutual
theorem toP.dp (sub : ∀ a o, F a = some o → H a = some o) : ∀ {d : D} {p : PyData} {v : V}, toP d = some p → relD G m F d v → Dp G.K H v p
  | .non, _, _, h, r => by cases h; rw [show _ = V.non from r]; exact .non
  | .bl _, _, _, h, r => by cases h; rw [show _ = V.bl _ from r]; exact .bl _
  | .int _, _, _, h, r => by cases h; rw [show _ = V.int _ from r]; exact .int _
  | .str x, _, _, h, r => by
    unfold toP at h
    split at h
    · cases h; rw [show _ = V.str _ from r]; exact .str _
    · cases h
  | .tup xs, p, _, h, r => by
    unfold toP at h
    obtain ⟨ps, h1, rfl⟩ := Option.map_eq_some_iff.mp h
    obtain ⟨a, vs, rfl, hs, hr⟩ := r
    exact .tup (hs.sq sub) (toPs.dp sub h1 hr)
  | .flst xs, p, _, h, r => by
    unfold toP at h
    obtain ⟨ps, h1, rfl⟩ := Option.map_eq_some_iff.mp h
    obtain ⟨a, vs, rfl, hs, hr⟩ := r
    exact .lst ((Ext.mk (m := []) (m' := []) (fun _ _ h => h) sub).sqL hs) (toPs.dp sub h1 hr)
  | .obj _ _, _, _, h, _ => by cases h
  | .ref _, _, _, h, _ => by cases h
  | .fn _, _, _, h, _ => by cases h
  | .cls _, _, _, h, _ => by cases h
  | .ty _, _, _, h, _ => by cases h
theorem toPs.dp (sub : ∀ a o, F a = some o → H a = some o) : ∀ {ds : List D} {ps : List PyData} {vs : List V}, toPs ds = some ps → relDs G m F ds vs → DpAll G.K H vs ps
  | [], _, _, h, r => by cases h; rw [show _ = [] from r]; exact .nil
  | d :: ds, _, _, h, r => by
    unfold toPs at h
    split at h
    · rename_i p ps h1 h2
      cases h
      obtain ⟨v, vs, rfl, r1, r2⟩ := r
      exact .cons (toP.dp sub h1 r1) (toPs.dp sub h2 r2)
    · cases h
end
theorem toPS.dp (s : Sim G m F S H) {d : D} {p : PyData} {v : V} (h : toPS S d = some p) (r : relD G m F d v) : Dp G.K H v p := by
  cases d with
  | ref i =>
    unfold toPS at h
    simp only at h
    split at h
    · rename_i xs e
      obtain ⟨ps, h1, rfl⟩ := Option.map_eq_some_iff.mp h
      obtain ⟨a, rfl, ha⟩ := r
      have hc := s.cel i a _ ha e
      obtain ⟨vs, h2, h3⟩ := hc
      exact .lst (.of h2) (toPs.dp s.sub h1 h3)
    · cases h
  | _ => exact toP.dp s.sub (by exact h) r
theorem toPS.lay {d : D} {p : PyData} (h : toPS S d = some p) : p.canLay0 = true := by
  cases d with
  | ref i =>
    unfold toPS at h
    simp only at h
    split at h
    · obtain ⟨ps, h1, rfl⟩ := Option.map_eq_some_iff.mp h
      exact toPs.lay h1
    · cases h
  | _ => exact toP.lay (by exact h)
end

/-! ### two-place operations -/
def mulOk (i j : Int) : Prop := (-(2 ^ 64) < i ∧ i < 2 ^ 64) ∨ (-(2 ^ 64) < j ∧ j < 2 ^ 64) ∨ i.natAbs.log2 + j.natAbs.log2 < 100000000
instance (i j : Int) : Decidable (mulOk i j) := by unfold mulOk; infer_instance
theorem mulOk.ok {i j : Int} (h : mulOk i j) : IntMulOk i j := by
  rcases h with h | h | h
  · exact CMul.ok (.inl h)
  · exact CMul.ok (.inr h)
  · have b : ∀ x : Int, Builtin.Int.intBits x ≤ x.natAbs.log2 + 1 := fun x => by
      unfold Builtin.Int.intBits
      split <;> omega
    have h1 := b i
    have h2 := b j
    have e : bitsLine = 134217728 := by decide
    unfold IntMulOk
    intro z
    rw [Bool.and_eq_true] at z
    have z2 := z.2
    unfold Builtin.Int.intTooBig at z2
    have z3 := of_decide_eq_true z2
    rw [e] at z3
    omega
def divOk (j : Int) : Prop := j ≠ 0 ∧ j.natAbs.log2 < 9000
instance (j : Int) : Decidable (divOk j) := by unfold divOk; infer_instance
def powOk (i j : Int) : Prop := 0 ≤ j ∧ j ≤ 1000000 ∧ i.natAbs < 2 ^ 64
instance (i j : Int) : Decidable (powOk i j) := by unfold powOk; infer_instance
def repOk (n : Nat) (k : Int) : Prop := -(2 ^ 63) ≤ k ∧ k < 2 ^ 63 ∧ n * k.toNat ≤ sizeLine
instance (n : Nat) (k : Int) : Decidable (repOk n k) := by unfold repOk; infer_instance

/-- a new list -/
def newL (xs : List D) : M D := fun S => some (.ok (.ref S.length) (S ++ [.lst xs]))
/-- the list at a cell -/
def getL (i : Nat) : M (List D) := fun S => match S[i]? with
  | some (.lst xs) => some (.ok xs S)
  | _ => none

def oAdd : D → D → M D
  | .int i, .int j => .ret (.int (i + j))
  | .str x, .str y => .guard (x.length + y.length ≤ sizeLine) (.ret (.str (x ++ y)))
  | .tup xs, .tup ys => .guard (xs.length + ys.length ≤ sizeLine) (.ret (.tup (xs ++ ys)))
  | .ref i, .ref j => .bind (getL i) fun xs => .bind (getL j) fun ys => .guard (xs.length + ys.length ≤ sizeLine) (newL (xs ++ ys))
  | _, _ => .stuck
def oSub : D → D → M D
  | .int i, .int j => .ret (.int (i - j))
  | _, _ => .stuck
def oMul : D → D → M D
  | .int i, .int j => .guard (mulOk i j) (.ret (.int (i * j)))
  | .ref i, .int k => .bind (getL i) fun xs => .guard (repOk xs.length k) (newL (List.replicate k.toNat xs).flatten)
  | .tup xs, .int k => .guard (xs ≠ [] ∧ 1 ≤ k ∧ k ≤ 1000 ∧ xs.length ≤ 1000) (.ret (.tup (List.replicate k.toNat xs).flatten))
  | _, _ => .stuck
def oFdiv : D → D → M D
  | .int i, .int j => .guard (divOk j) (.ret (.int (i.fdiv j)))
  | _, _ => .stuck
def oMod : D → D → M D
  | .int i, .int j => .guard (j ≠ 0) (.ret (.int (i.fmod j)))
  | _, _ => .stuck
def oPow : D → D → M D
  | .int i, .int j => .guard (powOk i j) (.ret (.int (i ^ j.toNat)))
  | _, _ => .stuck
def oNeg : D → M D
  | .int i => .ret (.int (-i))
  | _ => .stuck

/-- an operation on values is told by o -/
def OpS (X : Cx) (G : GW) (f : Value → Value → Sem Value) (o : D → D → M D) : Prop :=
  ∀ (W : WX) (pins : List (Addr × Obj)) (s : Shared) (σ : St) (H : Hp) (x y : V) (v u : Value) (Q : VK) (m : List Addr) (F : Hp) (S : Store) (d e : D), Inv X pins σ H s → RelV x v → RelV y u →
    Sim G m F S H → relD G m F d x → relD G m F e y → Run G W σ (relD G) (o d e) m F S Q → wpAny (model X.prog X.w) X.A (f v u) (EP X pins σ Q) X.xe s
/-- a comparison on values is told by c -/
def CmS (X : Cx) (G : GW) (f : Value → Value → Sem Value) (c : D → D → M Bool) : Prop :=
  ∀ (W : WX) (pins : List (Addr × Obj)) (s : Shared) (σ : St) (H : Hp) (x y : V) (v u : Value) (Q : Bool → Hp → Prop) (m : List Addr) (F : Hp) (S : Store) (d e : D), Inv X pins σ H s → RelV x v → RelV y u →
    Sim G m F S H → relD G m F d x → relD G m F e y → Run G W σ relB (c d e) m F S Q → wpAny (model X.prog X.w) X.A (f v u) (EP X pins σ fun z H' => ∃ k, z = .bl k ∧ Q k H') X.xe s
def UnS (X : Cx) (G : GW) (f : Value → Sem Value) (o : D → M D) : Prop :=
  ∀ (W : WX) (pins : List (Addr × Obj)) (s : Shared) (σ : St) (H : Hp) (x : V) (v : Value) (Q : VK) (m : List Addr) (F : Hp) (S : Store) (d : D), Inv X pins σ H s → RelV x v →
    Sim G m F S H → relD G m F d x → Run G W σ (relD G) (o d) m F S Q → wpAny (model X.prog X.w) X.A (f v) (EP X pins σ Q) X.xe s

section
variable {X : Cx} {G : GW} {W : WX} {σ : St} {m : List Addr} {F : Hp} {S : Store} {H : Hp} {Q : VK}
theorem run_newL {ds : List D} {vs : List V} (h : Run G W σ (relD G) (newL ds) m F S Q) (s : Sim G m F S H) (r : relDs G m F ds vs) : ∀ p, H p = none → Q (.ref p) (upd H p (.lst vs)) := fun p hp => by
  obtain ⟨s', e⟩ := s.newC (c := .lst ds) (o := .lst vs) hp ⟨vs, rfl, r⟩
  exact h.ok rfl _ _ _ _ e s' ⟨p, rfl, by rw [← s.len]; simp⟩
theorem run_getL {i : Nat} {a : Addr} {γ δ : Type} {rel : List Addr → Hp → γ → δ → Prop} {f : List D → M γ} {Q : δ → Hp → Prop} (h : Run G W σ rel (M.bind (getL i) f) m F S Q) (s : Sim G m F S H) (ha : m[i]? = some a) :
    ∃ xs vs, S[i]? = some (.lst xs) ∧ H a = some (.lst vs) ∧ relDs G m F xs vs ∧ Run G W σ rel (f xs) m F S Q := by
  cases e : S[i]? with
  | none =>
    obtain ⟨_, q, _⟩ := h
    unfold M.bind getL at q
    rw [e] at q; cases q
  | some c =>
    cases c with
    | lst xs =>
      obtain ⟨vs, h1, h2⟩ := s.cel i a _ ha e
      refine ⟨xs, vs, rfl, h1, h2, ?_⟩
      obtain ⟨r, q, z⟩ := h
      have q' : M.bind (getL i) f S = f xs S := M.bind_ok (by unfold getL; rw [e])
      exact ⟨r, by rw [← q']; exact q, z⟩
    | dct _ =>
      obtain ⟨_, q, _⟩ := h
      unfold M.bind getL at q
      rw [e] at q; cases q
    | obj _ _ =>
      obtain ⟨_, q, _⟩ := h
      unfold M.bind getL at q
      rw [e] at q; cases q
/-- a new tuple -/
theorem run_tup {ds : List D} {vs : List V} (h : Run G W σ (relD G) (M.ret (.tup ds)) m F S Q) (s : Sim G m F S H) (r : relDs G m F ds vs) : ∀ p, H p = none → Q (.ref p) (upd H p (.tup vs)) := fun p hp => by
  obtain ⟨s', e⟩ := s.newF (o := .tup vs) hp
  exact h.ok rfl _ _ _ _ e s' ⟨p, vs, rfl, .inl upd_same, r.mono e⟩
theorem relDs_rep {ds : List D} {vs : List V} (r : relDs G m F ds vs) : ∀ k : Nat, relDs G m F (List.replicate k ds).flatten (List.replicate k vs).flatten
  | 0 => rfl
  | k + 1 => by
    rw [List.replicate_succ, List.replicate_succ, List.flatten_cons, List.flatten_cons]
    exact r.append (relDs_rep r k)

theorem os_add (hK : X.K = G.K) : OpS X G (binaryOp .Add) oAdd := by
  intro W pins s σ H x y v u Q m F S d e I rx ry s' hx hy h
  unfold oAdd at h
  split at h
  · cases hx; cases hy
    exact op_add pins s σ H _ _ v u Q I rx ry ⟨_, _, rfl, rfl, h.ret s' rfl⟩
  · cases hx; cases hy
    obtain ⟨hl, h⟩ := h.guard
    exact op_add_str pins s σ H _ _ v u Q I rx ry ⟨_, _, rfl, rfl, hl, h.ret s' rfl⟩
  · obtain ⟨a, vs, rfl, h1, h2⟩ := hx
    obtain ⟨b, ws, rfl, h3, h4⟩ := hy
    obtain ⟨hl, h⟩ := h.guard
    have l1 := h2.length
    have l2 := h4.length
    refine op_catA pins s σ H _ _ v u Q I rx ry ⟨a, b, vs, ws, rfl, rfl, by rw [hK]; exact s'.sqT h1, by rw [hK]; exact s'.sqT h3, by omega, fun e => ?_, fun _ e => ?_, fun _ _ => run_tup h s' (h2.append h4)⟩
    · subst e
      have e0 : (_ : List D) = [] := List.length_eq_zero_iff.mp (l1.trans rfl)
      subst e0
      exact h.ret s' ⟨b, ws, rfl, h3, h4⟩
    · subst e
      have e0 : (_ : List D) = [] := List.length_eq_zero_iff.mp (l2.trans rfl)
      subst e0
      rw [List.append_nil] at h
      exact h.ret s' ⟨a, vs, rfl, h1, h2⟩
  · obtain ⟨a, rfl, h1⟩ := hx
    obtain ⟨b, rfl, h2⟩ := hy
    obtain ⟨xs, vs, _, q1, r1, h⟩ := run_getL h s' h1
    obtain ⟨ys, ws, _, q2, r2, h⟩ := run_getL h s' h2
    obtain ⟨hl, h⟩ := h.guard
    have l1 := r1.length
    have l2 := r2.length
    exact op_cat pins s σ H _ _ v u Q I rx ry ⟨a, b, vs, ws, rfl, rfl, q1, q2, by omega, run_newL h s' (r1.append r2)⟩
  · exact h.stuck.elim
theorem os_sub : OpS X G (binaryOp .Sub) oSub := by
  intro W pins s σ H x y v u Q m F S d e I rx ry s' hx hy h
  unfold oSub at h
  split at h
  · cases hx; cases hy
    exact op_sub pins s σ H _ _ v u Q I rx ry ⟨_, _, rfl, rfl, h.ret s' rfl⟩
  · exact h.stuck.elim
theorem os_mul (hK : X.K = G.K) : OpS X G (binaryOp .Mult) oMul := by
  intro W pins s σ H x y v u Q m F S d e I rx ry s' hx hy h
  unfold oMul at h
  split at h
  · cases hx; cases hy
    obtain ⟨hc, h⟩ := h.guard
    obtain ⟨t, rfl⟩ := rx
    obtain ⟨t', rfl⟩ := ry
    exact mul_int ⟨.int _, H, I.tok _, ⟨_, rfl⟩, h.ret s' rfl⟩ hc.ok
  · obtain ⟨a, rfl, h1⟩ := hx
    cases hy
    obtain ⟨xs, vs, _, q1, r1, h⟩ := run_getL h s' h1
    obtain ⟨⟨hl1, hl2, hl3⟩, h⟩ := h.guard
    have l1 := r1.length
    exact op_rep pins s σ H _ _ v u Q I rx ry ⟨a, _, vs, rfl, rfl, q1, hl1, hl2, by rw [← l1]; exact hl3, run_newL h s' (relDs_rep r1 _)⟩
  · rename_i xs k
    obtain ⟨⟨hne, h1, h2, h3⟩, h⟩ := h.guard
    obtain ⟨ad, vs, rfl, q1, q2⟩ := hx
    cases hy
    have l1 := q2.length
    by_cases hk : k = 1
    · subst hk
      refine op_rep1 pins s σ H _ _ v u Q I rx ry ⟨ad, vs, rfl, rfl, by rw [hK]; exact s'.sqT q1, ?_⟩
      have e : (List.replicate (1 : Int).toNat xs).flatten = xs := by
        show (List.replicate 1 xs).flatten = xs
        simp
      rw [e] at h
      exact h.ret s' ⟨ad, vs, rfl, q1, q2⟩
    · exact op_repT pins s σ H _ _ v u Q I rx ry ⟨ad, k, vs, rfl, rfl, by rw [hK]; exact s'.sqT q1, fun z => hne (by rw [z] at l1; exact List.eq_nil_of_length_eq_zero (by simpa using l1)), by omega, h2, by rw [← l1]; exact h3, run_tup h s' (relDs_rep q2 _)⟩
  · exact h.stuck.elim
theorem os_fdiv : OpS X G (binaryOp .FloorDiv) oFdiv := by
  intro W pins s σ H x y v u Q m F S d e I rx ry s' hx hy h
  unfold oFdiv at h
  split at h
  · cases hx; cases hy
    obtain ⟨hc, h⟩ := h.guard
    obtain ⟨t, rfl⟩ := rx
    obtain ⟨t', rfl⟩ := ry
    exact floordiv_int hc.1 ⟨.int _, H, I.tok _, ⟨_, rfl⟩, h.ret s' rfl⟩ (.inl (PyProof.noPylong_of_log2 hc.2))
  · exact h.stuck.elim
theorem os_mod : OpS X G (binaryOp .Mod) oMod := by
  intro W pins s σ H x y v u Q m F S d e I rx ry s' hx hy h
  unfold oMod at h
  split at h
  · cases hx; cases hy
    obtain ⟨hc, h⟩ := h.guard
    exact op_modN pins s σ H _ _ v u Q I rx ry ⟨_, _, rfl, rfl, hc, h.ret s' rfl⟩
  · exact h.stuck.elim
theorem os_pow : OpS X G (binaryOp .Pow) oPow := by
  intro W pins s σ H x y v u Q m F S d e I rx ry s' hx hy h
  unfold oPow at h
  split at h
  · cases hx; cases hy
    obtain ⟨hc, h⟩ := h.guard
    exact op_pow pins s σ H _ _ v u Q I rx ry ⟨_, _, rfl, rfl, hc, h.ret s' rfl⟩
  · exact h.stuck.elim
theorem us_neg : UnS X G (unaryOp .USub) oNeg := by
  intro W pins s σ H x v Q m F S d I rx s' hx h
  unfold oNeg at h
  split at h
  · cases hx
    exact un_neg pins s σ H _ v Q I rx ⟨_, rfl, h.ret s' rfl⟩
  · exact h.stuck.elim
end

/-! ### comparisons -/
/-- == over data -/
def cEq (a b : D) : M Bool := fun S => match toPS S a, toPS S b with
  | some p, some q => if min p.depth q.depth ≤ 200 then some (.ok (PyData.eqv p q) S) else none
  | _, _ => none
def cNe (a b : D) : M Bool := .bind (cEq a b) fun k => .ret (!k)
def cInt (p : Int → Int → Bool) : D → D → M Bool
  | .int i, .int j => .ret (p i j)
  | _, _ => .stuck
def cLt : D → D → M Bool := cInt fun i j => decide (i < j)
def cLe : D → D → M Bool := cInt fun i j => decide (i ≤ j)
def cGt : D → D → M Bool := cInt fun i j => decide (j < i)
def cGe : D → D → M Bool := cInt fun i j => decide (j ≤ i)
/-- is None, is True, is False -/
def D.isNon : D → Bool
  | .non => true
  | _ => false
def D.isBl (b : Bool) : D → Bool
  | .bl c => c == b
  | _ => false
def cIs (a : D) : D → M Bool
  | .non => .ret a.isNon
  | .bl b => .ret (a.isBl b)
  | _ => .stuck
def cIsNot (a b : D) : M Bool := .bind (cIs a b) fun k => .ret (!k)
section
variable {X : Cx} {G : GW} {W : WX} {σ : St} {m : List Addr} {F : Hp} {S : Store} {H : Hp}
theorem is_bool_gen {M : Model} {A : Around} {E : Value → Shared → Prop} {s : Shared} {Q : Value → Shared → Prop} {x : V} {v : Value} {b : Bool} (r : RelV x v) (h : Q (.bool (v == .bool b)) s) : wpAny M A (compareOp .Is v (.bool b)) Q E s := by
  cases x <;> first
    | (cases r; exact wpAny_pure h)
    | (obtain ⟨t, rfl⟩ := r; exact wpAny_pure h)
theorem isnot_bool_gen {M : Model} {A : Around} {E : Value → Shared → Prop} {s : Shared} {Q : Value → Shared → Prop} {x : V} {v : Value} {b : Bool} (r : RelV x v) (h : Q (.bool (!(v == .bool b))) s) : wpAny M A (compareOp .IsNot v (.bool b)) Q E s := by
  cases x <;> first
    | (cases r; exact wpAny_pure h)
    | (obtain ⟨t, rfl⟩ := r; exact wpAny_pure h)
theorem run_pred {Q : Bool → Hp → Prop} {k : Bool} (h : Run G W σ relB (M.ret k) m F S Q) (s : Sim G m F S H) : Q k H := h.ret s rfl
theorem cs_eq (hK : X.K = G.K) (hu : X.A.units + 200 < cLine) : CmS X G (compareOp .Eq) cEq := by
  intro W pins s σ H x y v u Q m F S d e I rx ry s' hx hy h
  obtain ⟨r, q, h⟩ := h
  unfold cEq at q
  split at q
  · rename_i p1 p2 h1 h2
    split at q
    · rename_i hd
      cases q
      obtain ⟨as, r1⟩ := Dp.reads I p1 x v (by rw [hK]; exact toPS.dp s' h1 hx) rx
      obtain ⟨bs, r2⟩ := Dp.reads I p2 y u (by rw [hK]; exact toPS.dp s' h2 hy) ry
      exact SeqAt.compareEq_reads r1 r2 (toPS.lay h1) (toPS.lay h2) (by omega) ⟨.bl _, H, I, rfl, _, rfl, h m F H _ .refl s' rfl⟩
    · cases q
  · cases q
theorem cs_ne (hK : X.K = G.K) (hu : X.A.units + 200 < cLine) : CmS X G (compareOp .NotEq) cNe := by
  intro W pins s σ H x y v u Q m F S d e I rx ry s' hx hy h
  obtain ⟨r, q, h⟩ := h
  unfold cNe M.bind cEq at q
  split at q
  · rename_i k S1 h0
    split at h0
    · rename_i p1 p2 h1 h2
      split at h0
      · rename_i hd
        cases h0
        cases q
        obtain ⟨as, r1⟩ := Dp.reads I p1 x v (by rw [hK]; exact toPS.dp s' h1 hx) rx
        obtain ⟨bs, r2⟩ := Dp.reads I p2 y u (by rw [hK]; exact toPS.dp s' h2 hy) ry
        exact SeqAt.compareNe_reads r1 r2 (toPS.lay h1) (toPS.lay h2) (by omega) ⟨.bl _, H, I, rfl, _, rfl, h m F H _ .refl s' rfl⟩
      · cases h0
    · cases h0
  · rename_i h0
    split at h0
    · split at h0 <;> cases h0
    · cases h0
  · cases q
theorem cs_int {op : CmpOp} {p : Int → Int → Bool} (ho : OpR X (compareOp op) (rI0 fun i j => .bl (p i j))) : CmS X G (compareOp op) (cInt p) := by
  intro W pins s σ H x y v u Q m F S d e I rx ry s' hx hy h
  unfold cInt at h
  split at h
  · cases hx; cases hy
    exact ho pins s σ H _ _ v u _ I rx ry ⟨_, _, rfl, rfl, _, rfl, run_pred h s'⟩
  · exact h.stuck.elim
theorem cs_lt : CmS X G (compareOp .Lt) cLt := cs_int op_lt
theorem cs_le : CmS X G (compareOp .LtE) cLe := cs_int op_le
theorem cs_gt : CmS X G (compareOp .Gt) cGt := cs_int op_gt
theorem cs_ge : CmS X G (compareOp .GtE) cGe := cs_int op_ge
theorem non_iff {d : D} {x : V} {v : Value} (hx : relD G m F d x) (rx : RelV x v) : (v == Value.none) = d.isNon := by
  cases d with
  | non => cases hx; cases rx; rfl
  | bl _ => cases hx; cases rx; rfl
  | int _ => cases hx; obtain ⟨t, rfl⟩ := rx; rfl
  | str _ => cases hx; obtain ⟨t, rfl⟩ := rx; rfl
  | tup _ => obtain ⟨a, _, rfl, _⟩ := hx; cases rx; rfl
  | flst _ => obtain ⟨a, _, rfl, _⟩ := hx; cases rx; rfl
  | obj _ _ => obtain ⟨a, _, _, rfl, _⟩ := hx; cases rx; rfl
  | ref _ => obtain ⟨a, rfl, _⟩ := hx; cases rx; rfl
  | fn _ => cases hx; cases rx; rfl
  | cls _ => cases hx; cases rx; rfl
  | ty _ => cases hx; cases rx; rfl
theorem bl_iff {d : D} {x : V} {v : Value} {b : Bool} (hx : relD G m F d x) (rx : RelV x v) : (v == Value.bool b) = d.isBl b := by
  cases d with
  | non => cases hx; cases rx; rfl
  | bl c => cases hx; cases rx; cases c <;> cases b <;> rfl
  | int _ => cases hx; obtain ⟨t, rfl⟩ := rx; rfl
  | str _ => cases hx; obtain ⟨t, rfl⟩ := rx; rfl
  | tup _ => obtain ⟨a, _, rfl, _⟩ := hx; cases rx; rfl
  | flst _ => obtain ⟨a, _, rfl, _⟩ := hx; cases rx; rfl
  | obj _ _ => obtain ⟨a, _, _, rfl, _⟩ := hx; cases rx; rfl
  | ref _ => obtain ⟨a, rfl, _⟩ := hx; cases rx; rfl
  | fn _ => cases hx; cases rx; rfl
  | cls _ => cases hx; cases rx; rfl
  | ty _ => cases hx; cases rx; rfl
theorem cs_is : CmS X G (compareOp .Is) cIs := by
  intro W pins s σ H x y v u Q m F S d e I rx ry s' hx hy h
  unfold cIs at h
  split at h
  · cases hy; cases ry
    exact is_none_gen ⟨.bl _, H, I, rfl, _, rfl, by rw [non_iff hx rx]; exact run_pred h s'⟩
  · cases hy; cases ry
    exact is_bool_gen rx ⟨.bl _, H, I, rfl, _, rfl, by rw [bl_iff hx rx]; exact run_pred h s'⟩
  · exact h.stuck.elim
theorem cs_isnot : CmS X G (compareOp .IsNot) cIsNot := by
  intro W pins s σ H x y v u Q m F S d e I rx ry s' hx hy h
  unfold cIsNot cIs at h
  split at h
  · cases hy; cases ry
    exact isnot_none_gen ⟨.bl _, H, I, rfl, _, rfl, by rw [non_iff hx rx]; exact run_pred h s'⟩
  · cases hy; cases ry
    exact isnot_bool_gen rx ⟨.bl _, H, I, rfl, _, rfl, by rw [bl_iff hx rx]; exact run_pred h s'⟩
  · exact (Run.stuck (α := Bool) (rel := relB) h.bind).elim
end

/-! ### truth -/
def truth : D → M Bool
  | .non => .ret false
  | .bl b => .ret b
  | .int i => .ret (i != 0)
  | .str x => .guard (x.length ≤ sizeLine) (.ret ((x.length : Int) != 0))
  | .tup xs => .ret (!xs.isEmpty)
  | .flst xs => .ret (!xs.isEmpty)
  | .ref i => fun S => match S[i]? with
    | some (.lst xs) => some (.ok (!xs.isEmpty) S)
    | some (.dct kvs) => some (.ok (!kvs.isEmpty) S)
    | _ => none
  | _ => .stuck
theorem empty_of_len {α β : Type} {xs : List α} {ys : List β} (h : xs.length = ys.length) : xs.isEmpty = ys.isEmpty := by
  cases xs <;> cases ys <;> simp_all
theorem truth_ok {G : GW} {W : WX} {σ : St} {m : List Addr} {F : Hp} {S : Store} {H : Hp} {Q : Bool → Hp → Prop} {d : D} {x : V} (h : Run G W σ relB (truth d) m F S Q) (s : Sim G m F S H) (hx : relD G m F d x) : ∃ k, TruV G.K x H k ∧ Q k H := by
  cases d with
  | non => cases hx; exact ⟨_, rfl, run_pred h s⟩
  | bl _ => cases hx; exact ⟨_, rfl, run_pred h s⟩
  | int _ => cases hx; exact ⟨_, rfl, run_pred h s⟩
  | str _ =>
    cases hx
    obtain ⟨hl, h⟩ := Run.guard (x := M.ret _) h
    exact ⟨_, ⟨hl, rfl⟩, run_pred h s⟩
  | tup _ =>
    obtain ⟨a, vs, rfl, h1, h2⟩ := hx
    exact ⟨_, .inr (.inl ⟨vs, s.sqT h1, by rw [empty_of_len h2.length]⟩), run_pred h s⟩
  | flst _ =>
    obtain ⟨a, vs, rfl, h1, h2⟩ := hx
    exact ⟨_, .inl ⟨vs, s.sqL h1, by rw [empty_of_len h2.length]⟩, run_pred h s⟩
  | ref _ =>
    obtain ⟨a, rfl, ha⟩ := hx
    obtain ⟨r, q, z⟩ := h
    unfold truth at q
    simp only at q
    split at q
    · rename_i xs e
      cases q
      obtain ⟨vs, h1, h2⟩ := s.cel _ a _ ha e
      exact ⟨_, .inl ⟨vs, .of h1, by rw [empty_of_len h2.length]⟩, z m F H _ .refl s rfl⟩
    · rename_i kvs e
      cases q
      obtain ⟨ws, h1, h2, h3⟩ := s.cel _ a _ ha e
      exact ⟨_, .inr (.inr ⟨ws, h1, by rw [empty_of_len (by simpa using congrArg List.length h2)]⟩), z m F H _ .refl s rfl⟩
    · cases q
  | obj _ _ => exact (Run.stuck (α := Bool) (rel := relB) h).elim
  | fn _ => exact (Run.stuck (α := Bool) (rel := relB) h).elim
  | cls _ => exact (Run.stuck (α := Bool) (rel := relB) h).elim
  | ty _ => exact (Run.stuck (α := Bool) (rel := relB) h).elim
end MP

/-! MPC: expressions. -/
namespace MP
open PySem PySem.Spec PyProof.Rows L2

abbrev Ev := En → M D
abbrev Tv := En → M Bool
abbrev Av := En → M (List D)

def eSlot (i : Nat) : Ev := fun ρ => match ρ[i]? with
  | some (some d) => M.ret d
  | _ => M.stuck
def eC (d : D) : Ev := fun _ => M.ret d
def eOp (o : D → D → M D) (a b : Ev) : Ev := fun ρ => .bind (a ρ) fun x => .bind (b ρ) fun y => o x y
def eUn (o : D → M D) (a : Ev) : Ev := fun ρ => .bind (a ρ) o
def eT (t : Tv) : Ev := fun ρ => .bind (t ρ) fun k => .ret (.bl k)
def tV (e : Ev) : Tv := fun ρ => .bind (e ρ) truth
def eAnd (a b : Ev) : Ev := fun ρ => .bind (a ρ) fun x => .bind (truth x) fun k => if k then b ρ else .ret x
def eOr (a b : Ev) : Ev := fun ρ => .bind (a ρ) fun x => .bind (truth x) fun k => if k then .ret x else b ρ
def tAnd (a b : Tv) : Tv := fun ρ => .bind (a ρ) fun k => if k then b ρ else .ret false
def tOr (a b : Tv) : Tv := fun ρ => .bind (a ρ) fun k => if k then .ret true else b ρ
def tNot (a : Tv) : Tv := fun ρ => .bind (a ρ) fun k => .ret (!k)
def eIf (t : Tv) (a b : Ev) : Ev := fun ρ => .bind (t ρ) fun k => if k then a ρ else b ρ
def tIf (t : Tv) (a b : Tv) : Tv := fun ρ => .bind (t ρ) fun k => if k then a ρ else b ρ
def tCmp (c : D → D → M Bool) (a b : Ev) : Tv := fun ρ => .bind (a ρ) fun x => .bind (b ρ) fun y => c x y
/-- the rest of a chain of comparisons -/
inductive Chn where
  | last (c : D → D → M Bool) (b : Ev)
  | more (c : D → D → M Bool) (b : Ev) (r : Chn)
def Chn.run (x : D) (ρ : En) : Chn → M Bool
  | .last c b => .bind (b ρ) fun y => c x y
  | .more c b r => .bind (b ρ) fun y => .bind (c x y) fun k => if k then r.run y ρ else .ret false
def tChn (a : Ev) (r : Chn) : Tv := fun ρ => .bind (a ρ) fun x => r.run x ρ
def aNil : Av := fun _ => .ret []
def aCons (a : Ev) (r : Av) : Av := fun ρ => .bind (a ρ) fun x => .bind (r ρ) fun xs => .ret (x :: xs)
def eTup (a : Av) : Ev := fun ρ => .bind (a ρ) fun xs => .guard (xs.length ≤ sizeLine) (.ret (.tup xs))
def eLst (a : Av) : Ev := fun ρ => .bind (a ρ) fun xs => .guard (xs.length ≤ sizeLine) (newL xs)

/-- what a body's context must be -/
structure GX (X : Cx) (G : GW) (W : WX) (k : Nat) : Prop where
  hK : X.K = G.K
  calm : X.calm = true
  nd : X.N.Nodup
  room : Room (k + 3) X.A
  tk : Takes X W

section
variable {X : Cx} {G : GW} {W : WX} {a b c e : Expr} {pos : Pos} {fa fb : Ev} {ta tb : Tv} {k : Nat}
abbrev SE (X : Cx) (G : GW) (W : WX) (e : Expr) (f : Ev) : Prop := PE X e (tE G W f)
abbrev ST (X : Cx) (G : GW) (W : WX) (e : Expr) (f : Tv) : Prop := PT X e (tT G W f)
abbrev SA (X : Cx) (G : GW) (W : WX) (e : List Expr) (f : Av) : Prop := PA X e (tA G W f)

/-- a comparison of values, at one wish -/
def CmW (X : Cx) (G : GW) (W : WX) (f : Value → Value → Sem Value) (c : D → D → M Bool) : Prop :=
  ∀ (pins : List (Addr × Obj)) (s : Shared) (σ : St) (H : Hp) (x y : V) (v u : Value) (Q : Bool → Hp → Prop) (m : List Addr) (F : Hp) (S : Store) (d e : D), Inv X pins σ H s → RelV x v → RelV y u →
    Sim G m F S H → relD G m F d x → relD G m F e y → Run G W σ relB (c d e) m F S Q → wpAny (model X.prog X.w) X.A (f v u) (EP X pins σ fun z H' => ∃ k, z = .bl k ∧ Q k H') X.xe s
theorem CmS.w {f : Value → Value → Sem Value} {c : D → D → M Bool} (h : CmS X G f c) : CmW X G W f c := h W
theorem units200 (g : GX X G W k) : X.A.units + 200 < cLine := by have := g.room.un; omega

theorem se_slot {i : Nat} {x : Str} (hN : X.N[i]? = some x) (hv : Vis X.env.scope x) (hd : (x == ("__debug__" : Str)) = false) (hcd : (x == ("__classdict__" : Str)) = false) : SE X G W (.Name x pos) (eSlot i) := by
  refine PEimp (pe_var hN hv hd hcd) fun σ H Q h => ?_
  obtain ⟨m, F, ρ, S, s, e, r⟩ := h
  unfold eSlot at r
  split at r
  · rename_i d hd
    obtain ⟨v, h1, h2⟩ := e.get i d hd
    exact ⟨v, h1, r.ret s h2⟩
  · exact r.stuck.elim
theorem se_const {v : V} {d : D} (h : PE X e (tC v)) (hr : ∀ m F, relD G m F d v) : SE X G W e (eC d) := by
  refine PEimp h fun σ H Q h => ?_
  obtain ⟨m, F, ρ, S, s, e, r⟩ := h
  exact r.ret s (hr m F)
theorem se_int {i j} : SE X G W (.Constant (.int i) j pos) (eC (.int i)) := se_const pe_int fun _ _ => rfl
theorem se_bool {i j} : SE X G W (.Constant (.bool i) j pos) (eC (.bl i)) := se_const pe_bl fun _ _ => rfl
theorem se_none {j} : SE X G W (.Constant .none j pos) (eC .non) := se_const pe_non fun _ _ => rfl
theorem se_str {i j} : SE X G W (.Constant (.str i) j pos) (eC (.str i)) := se_const pe_str fun _ _ => rfl

/-- two parts, then an operation on their values -/
theorem bin2 {γ δ : Type} {rel : List Addr → Hp → γ → δ → Prop} {o : D → D → M γ} {σ : St} {H : Hp} {Q : δ → Hp → Prop} (h : tM G W rel (fun ρ => .bind (fa ρ) fun x => .bind (fb ρ) fun y => o x y) σ H Q) :
    tE G W fa σ H fun x H1 => tE G W fb σ H1 fun y H2 => ∃ m F S dx dy, Sim G m F S H2 ∧ relD G m F dx x ∧ relD G m F dy y ∧ Run G W σ rel (o dx dy) m F S Q := by
  obtain ⟨m, F, ρ, S, s, e, r⟩ := h
  refine ⟨m, F, ρ, S, s, e, r.bind.imp fun x H1 ⟨m1, F1, S1, d1, x1, s1, r1, h1⟩ => ?_⟩
  refine ⟨m1, F1, ρ, S1, s1, e.mono x1, h1.bind.imp fun y H2 ⟨m2, F2, S2, d2, x2, s2, r2, h2⟩ => ?_⟩
  exact ⟨m2, F2, S2, d1, d2, s2, r1.mono x2, r2, h2⟩
theorem se_op {op : Operator} {o : D → D → M D} (ho : OpS X G (binaryOp op) o) (ha : SE X G W a fa) (hb : SE X G W b fb) : SE X G W (.BinOp a op b pos) (eOp o fa fb) := by
  refine ⟨fun pins s σ H Q I h => ?_⟩
  refine wpAny_BinOp (binT ha hb I (bin2 h) fun v u s2 x y H2 I2 rx ry q => ?_)
  obtain ⟨m, F, S, dx, dy, s', hx, hy, r⟩ := q
  exact ho W pins s2 σ H2 x y v u Q m F S dx dy I2 rx ry s' hx hy r
theorem se_un {op : UnaryOp} {o : D → M D} (ho : UnS X G (unaryOp op) o) (ha : SE X G W a fa) : SE X G W (.UnaryOp op a pos) (eUn o fa) := by
  refine ⟨fun pins s σ H Q I h => ?_⟩
  refine UnaryOp_ (thn (ha.run pins s σ H _ I (tM.bind h)) fun v s1 ⟨x, H1, I1, r1, m, F, ρ, S, d, s', _, hx, r⟩ => ?_)
  exact ho W pins s1 σ H1 x v Q m F S d I1 r1 s' hx r
theorem se_cmp {op : CmpOp} {o : D → D → M Bool} (ho : CmW X G W (compareOp op) o) (ha : SE X G W a fa) (hb : SE X G W b fb) (hm : behindInMarks op b = false) : SE X G W (.Compare a [op] [b] pos) (eT (tCmp o fa fb)) := by
  refine ⟨fun pins s σ H Q I h => ?_⟩
  have h' : tM G W (relD G) (fun ρ => .bind (fa ρ) fun x => .bind (fb ρ) fun y => .bind (o x y) fun k => .ret (.bl k)) σ H Q := by
    obtain ⟨m, F, ρ, S, s, e, r⟩ := h
    refine ⟨m, F, ρ, S, s, e, ?_⟩
    simp only [eT, tCmp, M.bind_assoc] at r
    exact r
  refine wpAny_Compare1 (binT ha hb I (bin2 h') fun v u s2 x y H2 I2 rx ry q => ?_) hm
  obtain ⟨m, F, S, dx, dy, s', hx, hy, r⟩ := q
  refine thn (ho pins s2 σ H2 x y v u _ m F S dx dy I2 rx ry s' hx hy r.bind) fun w s3 ⟨z, H3, I3, rz, k, ez, m3, F3, S3, k', x3, s3', ek, r3⟩ => ?_
  subst ez
  cases ek
  exact ⟨.bl _, H3, I3, rz, r3.ret s3' rfl⟩
theorem st_cmp {op : CmpOp} {o : D → D → M Bool} (ho : CmW X G W (compareOp op) o) (ha : SE X G W a fa) (hb : SE X G W b fb) (hm : behindInMarks op b = false) : ST X G W (.Compare a [op] [b] pos) (tCmp o fa fb) := by
  refine ⟨fun pins s σ H Q I h => ?_⟩
  refine wpAny_isTrue_Compare1 (thn (ha.run pins s σ H _ I (bin2 h)) fun v s1 ⟨x, H1, I1, r1, q1⟩ => thn (hb.run pins s1 σ H1 _ I1 q1) fun u s2 ⟨y, H2, I2, r2, q2⟩ => ?_) hm
  obtain ⟨m, F, S, dx, dy, s', hx, hy, r⟩ := q2
  refine thn (ho pins s2 σ H2 x y v u _ m F S dx dy I2 r1 r2 s' hx hy r) fun w s3 ⟨z, H3, I3, rz, k, ez, q⟩ => ?_
  subst ez
  cases rz
  exact wpAny_truthy_bool ⟨H3, I3, q⟩

/-- the rest of a chain, behind its left value -/
inductive SCh (X : Cx) (G : GW) (W : WX) : List CmpOp → List Expr → Chn → Prop
  | last {op : CmpOp} {b : Expr} {o : D → D → M Bool} {f : Ev} : CmW X G W (compareOp op) o → SE X G W b f → SCh X G W [op] [b] (.last o f)
  | more {op op' : CmpOp} {ops : List CmpOp} {b b' : Expr} {bs : List Expr} {o : D → D → M Bool} {f : Ev} {r : Chn} : CmW X G W (compareOp op) o → SE X G W b f → SCh X G W (op' :: ops) (b' :: bs) r → SCh X G W (op :: op' :: ops) (b :: b' :: bs) (.more o f r)
theorem SCh.val {ops : List CmpOp} {bs : List Expr} {r : Chn} (hc : SCh X G W ops bs r) : ∀ {pins : List (Addr × Obj)} {s : Shared} {σ : St} {H : Hp} {Q : Bool → Hp → Prop} {x : V} {v : Value} {m : List Addr} {F : Hp} {S : Store} {ρ : En} {d : D}, Inv X pins σ H s → RelV x v → Sim G m F S H → relE G m F ρ σ → relD G m F d x → Run G W σ relB (r.run d ρ) m F S Q →
    wpAny (model X.prog X.w) X.A (compareChain pos v ops (evalEach bs X.env)) (EP X pins σ fun z H' => ∃ k, z = .bl k ∧ Q k H') X.xe s := by
  induction hc with
  | last ho hb =>
    intro pins s σ H Q x v m F S ρ d I rx s' he hx h
    refine chain_last (thn (hb.run pins s σ H _ I ⟨m, F, ρ, S, s', he, h.bind⟩) fun u s2 ⟨y, H2, I2, r2, m2, F2, S2, d2, x2, s2', hy, r⟩ => ?_)
    exact ho pins s2 σ H2 x y v u _ m2 F2 S2 d d2 I2 rx r2 s2' (hx.mono x2) hy r
  | more ho hb hr ih =>
    intro pins s σ H Q x v m F S ρ d I rx s' he hx h
    refine chain_link (thn (hb.run pins s σ H _ I ⟨m, F, ρ, S, s', he, h.bind⟩) fun u s2 ⟨y, H2, I2, r2, m2, F2, S2, d2, x2, s2', hy, r⟩ => ?_)
    refine thn (ho pins s2 σ H2 x y v u _ m2 F2 S2 d d2 I2 rx r2 s2' (hx.mono x2) hy r.bind) fun w s3 ⟨z, H3, I3, rz, k, ez, m3, F3, S3, k', x3, s3', ek, r3⟩ => ?_
    subst ez
    cases rz
    cases ek
    refine wpAny_truthy_bool ?_
    cases k with
    | true => exact ih I3 r2 s3' ((he.mono x2).mono x3) (hy.mono x3) r3
    | false => exact ⟨.bl false, H3, I3, rfl, _, rfl, r3.ret s3' rfl⟩
theorem SCh.tst {ops : List CmpOp} {bs : List Expr} {r : Chn} (hc : SCh X G W ops bs r) : ∀ {pins : List (Addr × Obj)} {s : Shared} {σ : St} {H : Hp} {Q : Bool → Hp → Prop} {x : V} {v : Value} {m : List Addr} {F : Hp} {S : Store} {ρ : En} {d : D}, Inv X pins σ H s → RelV x v → Sim G m F S H → relE G m F ρ σ → relD G m F d x → Run G W σ relB (r.run d ρ) m F S Q →
    wpAny (model X.prog X.w) X.A (testChain pos v ops (evalEach bs X.env)) (TP X pins σ Q) X.xe s := by
  induction hc with
  | last ho hb =>
    intro pins s σ H Q x v m F S ρ d I rx s' he hx h
    refine test_last (thn (hb.run pins s σ H _ I ⟨m, F, ρ, S, s', he, h.bind⟩) fun u s2 ⟨y, H2, I2, r2, m2, F2, S2, d2, x2, s2', hy, r⟩ => ?_)
    refine thn (ho pins s2 σ H2 x y v u _ m2 F2 S2 d d2 I2 rx r2 s2' (hx.mono x2) hy r) fun w s3 ⟨z, H3, I3, rz, k, ez, q⟩ => ?_
    subst ez
    cases rz
    exact wpAny_truthy_bool ⟨H3, I3, q⟩
  | more ho hb hr ih =>
    intro pins s σ H Q x v m F S ρ d I rx s' he hx h
    refine test_link (thn (hb.run pins s σ H _ I ⟨m, F, ρ, S, s', he, h.bind⟩) fun u s2 ⟨y, H2, I2, r2, m2, F2, S2, d2, x2, s2', hy, r⟩ => ?_)
    refine thn (ho pins s2 σ H2 x y v u _ m2 F2 S2 d d2 I2 rx r2 s2' (hx.mono x2) hy r.bind) fun w s3 ⟨z, H3, I3, rz, k, ez, m3, F3, S3, k', x3, s3', ek, r3⟩ => ?_
    subst ez
    cases rz
    cases ek
    refine wpAny_truthy_bool ?_
    cases k with
    | true => exact ih I3 r2 s3' ((he.mono x2).mono x3) (hy.mono x3) r3
    | false => exact ⟨H3, I3, r3.ret s3' rfl⟩
theorem eT_chn {f : Ev} {r : Chn} : eT (tChn f r) = fun ρ => M.bind (f ρ) fun x => M.bind (r.run x ρ) fun k => .ret (.bl k) := by
  funext ρ
  simp only [eT, tChn, M.bind_assoc]
theorem se_chn {op op' : CmpOp} {ops : List CmpOp} {b' : Expr} {bs : List Expr} {r : Chn} (ha : SE X G W a fa) (hc : SCh X G W (op :: op' :: ops) (b :: b' :: bs) r) (hm : lastMarks (op :: op' :: ops) (b :: b' :: bs) = false) : SE X G W (.Compare a (op :: op' :: ops) (b :: b' :: bs) pos) (eT (tChn fa r)) := by
  refine ⟨fun pins s σ H Q I h => ?_⟩
  rw [eT_chn] at h
  refine Compare_chain (thn (ha.run pins s σ H _ I (tM.bind h)) fun v s1 ⟨x, H1, I1, r1, m, F, ρ, S, d, s', he, hx, r⟩ => ?_) hm
  refine thn (hc.val I1 r1 s' he hx r.bind) fun w s3 ⟨z, H3, I3, rz, k, ez, m3, F3, S3, k', x3, s3', ek, r3⟩ => ?_
  subst ez
  cases ek
  exact ⟨.bl _, H3, I3, rz, r3.ret s3' rfl⟩
theorem st_chn {op op' : CmpOp} {ops : List CmpOp} {b' : Expr} {bs : List Expr} {r : Chn} (ha : SE X G W a fa) (hc : SCh X G W (op :: op' :: ops) (b :: b' :: bs) r) (hm : lastMarks (op :: op' :: ops) (b :: b' :: bs) = false) : ST X G W (.Compare a (op :: op' :: ops) (b :: b' :: bs) pos) (tChn fa r) := by
  refine ⟨fun pins s σ H Q I h => ?_⟩
  exact isTrue_chain (thn (ha.run pins s σ H _ I (tM.bind h)) fun v s1 ⟨x, H1, I1, r1, m, F, ρ, S, d, s', he, hx, r⟩ => hc.tst I1 r1 s' he hx r) hm

/-! ### truth, and, or, not, if -/
theorem st_val (g : GX X G W k) (ha : SE X G W a fa) (he : ∀ whole, isTrue a X.env whole = (do let v ← whole; standAt a.pos; holding [v] (truthy v))) : ST X G W a (tV fa) := by
  refine PTimp (pt_truth ha he) fun σ H Q h => ?_
  refine (tM.bind h).imp fun x H1 ⟨m, F, ρ, S, d, s', _, hx, r⟩ => ?_
  rw [g.hK]
  exact truth_ok r s' hx
theorem sw_and1 (ha : ST X G W a ta) : PW X (.BoolOp .And [a] pos) (tT G W ta) := pw_and1 ha
theorem sw_or1 (ha : ST X G W a ta) : PW X (.BoolOp .Or [a] pos) (tT G W ta) := pw_or1 ha
theorem sw_and {rest : List Expr} (ha : ST X G W a ta) (hb : PW X (.BoolOp .And (b :: rest) pos) (tT G W tb)) : PW X (.BoolOp .And (a :: b :: rest) pos) (tT G W (tAnd ta tb)) := by
  refine PWimp (pw_and ha hb) fun σ H Q h => ?_
  refine (tM.bind h).imp fun c H1 ⟨m, F, ρ, S, d, s', he, hx, r⟩ => ?_
  obtain rfl : d = _ := hx
  cases d with
  | true => exact ⟨m, F, ρ, S, s', he, r⟩
  | false => exact run_pred r s'
theorem sw_or {rest : List Expr} (ha : ST X G W a ta) (hb : PW X (.BoolOp .Or (b :: rest) pos) (tT G W tb)) : PW X (.BoolOp .Or (a :: b :: rest) pos) (tT G W (tOr ta tb)) := by
  refine PWimp (pw_or ha hb) fun σ H Q h => ?_
  refine (tM.bind h).imp fun c H1 ⟨m, F, ρ, S, d, s', he, hx, r⟩ => ?_
  obtain rfl : d = _ := hx
  cases d with
  | true => exact run_pred r s'
  | false => exact ⟨m, F, ρ, S, s', he, r⟩
theorem st_not (ha : ST X G W a ta) : ST X G W (.UnaryOp .Not a pos) (tNot ta) := by
  refine PTimp (pt_not ha) fun σ H Q h => ?_
  refine (tM.bind h).imp fun c H1 ⟨m, F, ρ, S, d, s', he, hx, r⟩ => ?_
  cases hx
  exact run_pred r s'
theorem se_one {op} (h : SE X G W a fa) : SE X G W (.BoolOp op [a] pos) fa := pe_one h
theorem se_and (g : GX X G W k) {rest : List Expr} (ha : SE X G W a fa) (hb : SE X G W (.BoolOp .And (b :: rest) pos) fb) : SE X G W (.BoolOp .And (a :: b :: rest) pos) (eAnd fa fb) := by
  refine PEimp (pe_andT ha hb) fun σ H Q h => ?_
  refine (tM.bind h).imp fun x H1 ⟨m, F, ρ, S, d, s', he, hx, r⟩ => ?_
  obtain ⟨k, t, q⟩ := truth_ok r.bind s' hx
  rw [← g.hK] at t
  obtain ⟨m2, F2, S2, k2, x2, s2, ek, r2⟩ := q
  obtain rfl : k2 = _ := ek
  refine ⟨k2, t, ?_⟩
  cases k2 with
  | true => exact ⟨m2, F2, ρ, S2, s2, he.mono x2, r2⟩
  | false => exact r2.ret s2 (hx.mono x2)
theorem se_or (g : GX X G W k) {rest : List Expr} (ha : SE X G W a fa) (hb : SE X G W (.BoolOp .Or (b :: rest) pos) fb) : SE X G W (.BoolOp .Or (a :: b :: rest) pos) (eOr fa fb) := by
  refine PEimp (pe_orT ha hb) fun σ H Q h => ?_
  refine (tM.bind h).imp fun x H1 ⟨m, F, ρ, S, d, s', he, hx, r⟩ => ?_
  obtain ⟨k, t, q⟩ := truth_ok r.bind s' hx
  rw [← g.hK] at t
  obtain ⟨m2, F2, S2, k2, x2, s2, ek, r2⟩ := q
  obtain rfl : k2 = _ := ek
  refine ⟨k2, t, ?_⟩
  cases k2 with
  | true => exact r2.ret s2 (hx.mono x2)
  | false => exact ⟨m2, F2, ρ, S2, s2, he.mono x2, r2⟩
theorem se_not (g : GX X G W k) (ha : SE X G W a fa) : SE X G W (.UnaryOp .Not a pos) (eT (tNot (tV fa))) := by
  refine PEimp (pe_notT ha) fun σ H Q h => ?_
  have h' : tE G W (fun ρ => .bind (fa ρ) fun x => .bind (truth x) fun k => .ret (.bl (!k))) σ H Q := by
    obtain ⟨m, F, ρ, S, s, e, r⟩ := h
    refine ⟨m, F, ρ, S, s, e, ?_⟩
    simp only [eT, tNot, tV, M.bind_assoc, M.ret_bind] at r
    exact r
  refine (tM.bind h').imp fun x H1 ⟨m, F, ρ, S, d, s', he, hx, r⟩ => ?_
  obtain ⟨k, t, q⟩ := truth_ok r.bind s' hx
  rw [← g.hK] at t
  obtain ⟨m2, F2, S2, k2, x2, s2, ek, r2⟩ := q
  obtain rfl : k2 = _ := ek
  exact ⟨k2, t, r2.ret s2 rfl⟩
theorem se_if (hc : ST X G W c ta) (ha : SE X G W a fa) (hb : SE X G W b fb) : SE X G W (.IfExp c a b pos) (eIf ta fa fb) := by
  refine PEimp (pe_ifExp hc ha hb) fun σ H Q h => ?_
  refine (tM.bind h).imp fun k H1 ⟨m, F, ρ, S, d, s', he, hx, r⟩ => ?_
  obtain rfl : d = _ := hx
  cases d with
  | true => exact ⟨m, F, ρ, S, s', he, r⟩
  | false => exact ⟨m, F, ρ, S, s', he, r⟩
theorem st_if {tc : Tv} (hc : ST X G W c tc) (ha : ST X G W a ta) (hb : ST X G W b tb) : ST X G W (.IfExp c a b pos) (tIf tc ta tb) := by
  refine ⟨fun pins s σ H Q I h => ?_⟩
  show wpAny _ _ (do if ← isTrue c X.env (eval c X.env) then isTrue a X.env (eval a X.env) else isTrue b X.env (eval b X.env)) _ _ _
  refine wpAny_bind (thn (hc.run pins s σ H _ I (tM.bind h)) fun k s1 ⟨H1, I1, m, F, ρ, S, d, s', he, hx, r⟩ => ?_)
  obtain rfl : d = _ := hx
  cases d with
  | true => exact ha.run pins s1 σ H1 Q I1 ⟨m, F, ρ, S, s', he, r⟩
  | false => exact hb.run pins s1 σ H1 Q I1 ⟨m, F, ρ, S, s', he, r⟩

/-! ### argument lists, displays -/
theorem sa_nil : SA X G W [] aNil := by
  refine PAimp pa_nil fun σ H Q h => ?_
  obtain ⟨m, F, ρ, S, s, e, r⟩ := h
  exact r.ret s rfl
theorem sa_cons {es : List Expr} {ga : Av} (ha : SE X G W a fa) (hr : SA X G W es ga) (hs : starEach (a :: es) X.env = (false, eval a X.env) :: starEach es X.env) : SA X G W (a :: es) (aCons fa ga) := by
  refine PAimp (pa_cons ha hr hs) fun σ H Q h => ?_
  refine (tM.bind h).imp fun x H1 ⟨m, F, ρ, S, d, s', he, hx, r⟩ => ?_
  refine ⟨m, F, ρ, S, s', he, r.bind.imp fun xs H2 ⟨m2, F2, S2, ds, x2, s2, hxs, r2⟩ => ?_⟩
  exact r2.ret s2 ⟨x, xs, rfl, hx.mono x2, hxs⟩
theorem se_tup {es : List Expr} {x1} {ga : Av} (ha : SA X G W es ga) : SE X G W (.Tuple es x1 pos) (eTup ga) := by
  refine PEimp (pe_tup ha) fun σ H Q h => ?_
  refine (tM.bind h).imp fun xs H1 ⟨m, F, ρ, S, ds, s', he, hx, r⟩ => ?_
  obtain ⟨hl, r⟩ := r.guard
  exact ⟨by rw [← hx.length]; exact hl, run_tup r s' hx⟩
theorem se_lst {es : List Expr} {ga : Av} (ha : SA X G W es ga) : SE X G W (.List es pos) (eLst ga) := by
  refine PEimp (pe_lst ha) fun σ H Q h => ?_
  refine (tM.bind h).imp fun xs H1 ⟨m, F, ρ, S, ds, s', he, hx, r⟩ => ?_
  obtain ⟨hl, r⟩ := r.guard
  exact ⟨by rw [← hx.length]; exact hl, run_newL r s' hx⟩
end
end MP

/-! MPD: subscripts, slices, attributes, calls. -/
namespace MP
open PySem PySem.Spec PyProof.Rows L2

def keyD : D → Option Key
  | .int i => some (.inl i)
  | .str x => some (.inr x)
  | _ => none
/-- the entry of a key -/
def valD (kvs : List (Key × D)) (k : Key) : Option D := (kvs.find? fun kv => decide (kv.1 = k)).map (·.2)
def putD (kvs : List (Key × D)) (k : Key) (v : D) : List (Key × D) :=
  if kvs.any (fun kv => decide (kv.1 = k)) then kvs.map fun kv => if kv.1 = k then (kv.1, v) else kv else kvs ++ [(k, v)]
def optM {α : Type} : Option α → M α
  | some a => .ret a
  | none => .stuck
/-- o[i] -/
def oIx : D → D → M D
  | .tup xs, .int i => optM (atI xs i)
  | .flst xs, .int i => optM (atI xs i)
  | .str z, .int i => .guard (z.length ≤ sizeLine) (optM ((atI z.cps.toList i).map fun c => .str ⟨#[c]⟩))
  | .ref r, y => fun S => match S[r]? with
    | some (.lst xs) => (match y with
      | .int i => (match atI xs i with
        | some d => some (.ok d S)
        | none => none)
      | _ => none)
    | some (.dct kvs) => (match keyD y with
      | some k => (match valD kvs k with
        | some d => some (.ok d S)
        | none => none)
      | none => none)
    | _ => none
  | _, _ => .stuck
section
variable {X : Cx} {G : GW} {W : WX} {σ : St} {m : List Addr} {F : Hp} {S : Store} {H : Hp}
theorem run_opt {α β : Type} {rel : List Addr → Hp → α → β → Prop} {o : Option α} {Q : β → Hp → Prop} (h : Run G W σ rel (optM o) m F S Q) (s : Sim G m F S H) : ∃ a, o = some a ∧ ∀ b, rel m F a b → Q b H := by
  cases o with
  | none => exact h.stuck.elim
  | some a => exact ⟨a, rfl, fun b r => h.ret s r⟩
theorem atI_rel {ds : List D} {vs : List V} {i : Int} {d : D} (r : relDs G m F ds vs) (h : atI ds i = some d) : ∃ v, atI vs i = some v ∧ relD G m F d v := by
  unfold atI at h ⊢
  obtain ⟨j, h1, h2⟩ := Option.bind_eq_some_iff.mp h
  obtain ⟨v, h3, h4⟩ := r.get h2
  exact ⟨v, by rw [← r.length, h1]; exact h3, h4⟩
theorem keyD_kV {d : D} {k : Key} {v : V} (h : keyD d = some k) (r : relD G m F d v) : v = kV k := by
  cases d with
  | int i => cases h; exact r
  | str x => cases h; exact r
  | _ => cases h
theorem valD_rel : ∀ {kvs : List (Key × D)} {ws : List (Key × V)} {k : Key}, kvs.map (·.1) = ws.map (·.1) → relDs G m F (kvs.map (·.2)) (ws.map (·.2)) → (valD kvs k = none ∧ valV ws k = none) ∨ ∃ d v, valD kvs k = some d ∧ valV ws k = some v ∧ relD G m F d v
  | [], [], k, _, _ => .inl ⟨rfl, rfl⟩
  | [], _ :: _, _, h, _ => by simp at h
  | _ :: _, [], _, h, _ => by simp at h
  | (a, d) :: kvs, (b, v) :: ws, k, h, r => by
    obtain ⟨v', ws', e, r1, r2⟩ := r
    simp only [List.map_cons, List.cons.injEq] at h e
    obtain ⟨h1, h2⟩ := h
    obtain ⟨e1, e2⟩ := e
    subst h1 e1 e2
    by_cases hk : a = k
    · refine .inr ⟨d, v, ?_, valV_pos hk, r1⟩
      simp [valD, List.find?_cons, hk]
    · rcases valD_rel (k := k) h2 r2 with ⟨q1, q2⟩ | ⟨d', v', q1, q2, q3⟩
      · refine .inl ⟨?_, by rw [valV_neg (by exact hk)]; exact q2⟩
        simp [valD, List.find?_cons, hk] at q1 ⊢
        exact q1
      · refine .inr ⟨d', v', ?_, by rw [valV_neg (by exact hk)]; exact q2, q3⟩
        simp [valD, List.find?_cons, hk] at q1 ⊢
        exact q1
theorem sub_dict {prog : Program} {w : World} {A : Around} {E : Value → Shared → Prop} {s : Shared} {value slice : Expr} {o i : Value} {Q : Value → Shared → Prop} (hT : s.TypeIs o "dict") (hs : subscripted slice false o i = operate [o, i] (getItem o i))
    (h : wpAny (model prog w) A (getItem o i) Q E s) : wpAny (model prog w) A (subscriptTail value slice o i) Q E s := by
  unfold subscriptTail
  refine wpAny_bind ?_
  rw [getitemInPython_of_ne hT.not_modules]
  refine wpAny_bind (wpAny_specialOf hT PySem.F.slot_dict_getitem.lookup ?_)
  have fin : wpAny (model prog w) A (subscripted slice false o i) (fun r s₃ => wpAny (model prog w) A (letTemporaryGo value o r >>= fun _ => pure r) Q E s₃) E s := by
    rw [hs]
    exact wpAny_operating (wpAny_mono h (fun r s₃ h₃ => wpAny_bind (wpAny_letTemporaryGo (wpAny_pure h₃))) fun _ _ x => x)
  first
    | exact wpAny_pure (wpAny_bind fin)
    | exact wpAny_bind (wpAny_pure (wpAny_bind fin))
    | exact wpAny_bind fin
theorem ix_ok {k : Nat} (g : GX X G W k) {value slice : Expr} {pins : List (Addr × Obj)} {s : Shared} {x y : V} {v u : Value} {Q : VK} {d e : D} (I : Inv X pins σ H s) (rx : RelV x v) (ry : RelV y u) (s' : Sim G m F S H) (hx : relD G m F d x) (hy : relD G m F e y)
    (h : Run G W σ (relD G) (oIx d e) m F S Q) (hs : subscripted slice false v u = operate [v, u] (getItem v u)) : wpAny (model X.prog X.w) X.A (subscriptTail value slice v u) (EP X pins σ Q) X.xe s := by
  cases d with
  | tup xs =>
    cases e with
    | int i =>
      obtain ⟨d', h1, h2⟩ := run_opt (show Run G W σ (relD G) (optM (atI xs i)) m F S Q from h) s'
      obtain ⟨a, vs, rfl, q1, q2⟩ := hx
      obtain ⟨v', h3, h4⟩ := atI_rel q2 h1
      cases hy
      exact ix_tup value slice pins s σ H _ _ v u Q I rx ry ⟨a, vs, i, v', rfl, rfl, by rw [g.hK]; exact s'.sqT q1, h3, h2 _ h4⟩ hs
    | _ => exact (Run.stuck (α := D) (rel := relD G) h).elim
  | flst xs =>
    cases e with
    | int i =>
      obtain ⟨d', h1, h2⟩ := run_opt (show Run G W σ (relD G) (optM (atI xs i)) m F S Q from h) s'
      obtain ⟨a, vs, rfl, q1, q2⟩ := hx
      obtain ⟨v', h3, h4⟩ := atI_rel q2 h1
      cases hy
      exact ix_list value slice pins s σ H _ _ v u Q I rx ry ⟨a, vs, i, v', rfl, rfl, by rw [g.hK]; exact s'.sqL q1, h3, h2 _ h4⟩ hs
    | _ => exact (Run.stuck (α := D) (rel := relD G) h).elim
  | str z =>
    cases e with
    | int i =>
      obtain ⟨hl, h⟩ := Run.guard (x := optM ((atI z.cps.toList i).map fun c => D.str ⟨#[c]⟩)) h
      obtain ⟨d', h1, h2⟩ := run_opt h s'
      obtain ⟨c, h3, rfl⟩ := Option.map_eq_some_iff.mp h1
      cases hx; cases hy
      exact ix_str value slice pins s σ H _ _ v u Q I rx ry ⟨z, i, c, rfl, rfl, hl, h3, h2 _ rfl⟩ hs
    | _ => exact (Run.stuck (α := D) (rel := relD G) h).elim
  | ref r =>
    obtain ⟨a, rfl, ha⟩ := hx
    obtain ⟨r', q, z⟩ := h
    unfold oIx at q
    simp only at q
    split at q
    · rename_i xs e1
      obtain ⟨vs, h1, h2⟩ := s'.cel _ a _ ha e1
      split at q
      · rename_i i
        split at q
        · rename_i d' h3
          cases q
          obtain ⟨v', h4, h5⟩ := atI_rel h2 h3
          cases hy
          exact ix_list value slice pins s σ H _ _ v u Q I rx ry ⟨a, vs, i, v', rfl, rfl, .of h1, h4, z m F H _ .refl s' h5⟩ hs
        · cases q
      · cases q
    · rename_i kvs e1
      obtain ⟨ws, h1, h2, h3⟩ := s'.cel _ a _ ha e1
      split at q
      · rename_i ky hk
        split at q
        · rename_i d' hd
          cases q
          obtain rfl := keyD_kV hk hy
          rcases valD_rel (k := ky) h2 h3 with ⟨q1, _⟩ | ⟨d2, v2, q1, q2, q3⟩
          · rw [hd] at q1; cases q1
          · rw [hd] at q1; cases q1
            have gt : DGet H a (kV ky) (some v2) := by rw [← q2]; exact DGet.k h1
            obtain rfl : v = Value.ref a := rx
            exact sub_dict (dict_typeIs I gt) hs (d_getItem (hu_of g.room) I gt ry fun w' s3 I3 rw' => ⟨v2, H, I3, rw', z m F H _ .refl s' q3⟩)
        · cases q
      · cases q
    · cases q
  | non => exact (Run.stuck (α := D) (rel := relD G) h).elim
  | bl _ => exact (Run.stuck (α := D) (rel := relD G) h).elim
  | int _ => exact (Run.stuck (α := D) (rel := relD G) h).elim
  | obj _ _ => exact (Run.stuck (α := D) (rel := relD G) h).elim
  | fn _ => exact (Run.stuck (α := D) (rel := relD G) h).elim
  | cls _ => exact (Run.stuck (α := D) (rel := relD G) h).elim
  | ty _ => exact (Run.stuck (α := D) (rel := relD G) h).elim
end
section
variable {X : Cx} {G : GW} {W : WX} {a b c e : Expr} {pos : Pos} {fa fb : Ev} {k : Nat}
theorem se_ix (g : GX X G W k) (ha : SE X G W a fa) (hb : SE X G W b fb) (hs : PlainIx b) : SE X G W (.Subscript a b pos) (eOp oIx fa fb) := by
  refine ⟨fun pins s σ H Q I h => ?_⟩
  refine Subscript_ (binT ha hb I (bin2 h) fun v u s2 x y H2 I2 rx ry q => ?_)
  obtain ⟨m, F, S, dx, dy, s', hx, hy, r⟩ := q
  exact ix_ok g I2 rx ry s' hx hy r (hs _ _)
end

/-! ### slices -/
def cutD (xs : List D) (lo hi : Option Int) : List D := (xs.drop (HT.sIx xs.length 0 lo)).take (HT.sIx xs.length xs.length hi - HT.sIx xs.length 0 lo)
def oCut : D → Option Int → Option Int → M D
  | .tup xs, lo, hi => .ret (.tup (cutD xs lo hi))
  | .flst xs, lo, hi => newL (cutD xs lo hi)
  | .ref r, lo, hi => .bind (getL r) fun xs => newL (cutD xs lo hi)
  | _, _, _ => .stuck
abbrev Ov := En → M (Option Int)
def pNone : Ov := fun _ => .ret none
def pSome (e : Ev) : Ov := fun ρ => .bind (e ρ) fun x => match x with
  | .int i => .ret (some i)
  | _ => .stuck
def eCut (a : Ev) (lo hi : Ov) : Ev := fun ρ => .bind (a ρ) fun x => .bind (lo ρ) fun l => .bind (hi ρ) fun h => oCut x l h
def relO {α : Type} : List Addr → Hp → α → α → Prop := fun _ _ a b => a = b
section
variable {X : Cx} {G : GW} {W : WX} {a b c e : Expr} {pos p2 : Pos} {fa fb : Ev} {k : Nat}
abbrev SO (X : Cx) (G : GW) (W : WX) (e : Option Expr) (f : Ov) : Prop := PO X e (tM G W relO f)
theorem so_none : SO X G W none pNone := by
  refine ⟨fun pins s σ H Q I h => po_none.run pins s σ H Q I ?_⟩
  obtain ⟨m, F, ρ, S, s', e, r⟩ := h
  exact r.ret s' rfl
theorem so_some (ha : SE X G W a fa) : SO X G W (some a) (pSome fa) := by
  refine ⟨fun pins s σ H Q I h => (po_some ha).run pins s σ H Q I ?_⟩
  refine (tM.bind h).imp fun x H1 ⟨m, F, ρ, S, d, s', he, hx, r⟩ => ?_
  cases d with
  | int i => cases hx; exact ⟨i, rfl, r.ret s' rfl⟩
  | _ => exact (Run.stuck (α := Option Int) (rel := relO) r).elim
theorem cut_rel {m : List Addr} {F : Hp} {ds : List D} {vs : List V} (r : relDs G m F ds vs) (lo hi : Option Int) : relDs G m F (cutD ds lo hi) (cutV vs lo hi) := by
  unfold cutD cutV
  rw [r.length]
  exact (r.drop _).take _
theorem se_cut (g : GX X G W k) {lo hi : Option Expr} {fl fh : Ov} (ha : SE X G W a fa) (hl : SO X G W lo fl) (hh : SO X G W hi fh) : SE X G W (.Subscript a (.Slice lo hi none p2) pos) (eCut fa fl fh) := by
  have hr : SlR X (fun x lo hi H Q => rSlA X.K x lo hi H Q ∨ rSlL X.K x lo hi H Q) := SlR.or sl_tupA sl_list
  refine PEimp (pe_slice hr ha hl hh) fun σ H Q h => ?_
  obtain ⟨m, F, ρ, S, s, e, r⟩ := h
  refine ⟨m, F, ρ, S, s, e, r.bind.imp fun x H1 ⟨m1, F1, S1, d1, x1, s1, r1, h1⟩ => ?_⟩
  refine ⟨m1, F1, ρ, S1, s1, e.mono x1, h1.bind.imp fun l H2 ⟨m2, F2, S2, d2, x2, s2, r2, h2⟩ => ?_⟩
  refine ⟨m2, F2, ρ, S2, s2, (e.mono x1).mono x2, h2.bind.imp fun u H3 ⟨m3, F3, S3, d3, x3, s3, r3, h3⟩ => ?_⟩
  cases r2; cases r3
  have r4 := (r1.mono x2).mono x3
  cases d1 with
  | tup xs =>
    obtain ⟨ad, vs, rfl, q1, q2⟩ := r4
    refine .inl ⟨ad, vs, rfl, by rw [g.hK]; exact s3.sqT q1, fun ⟨e1, e2⟩ => ?_, fun _ => run_tup h3 s3 (cut_rel q2 _ _)⟩
    have ec : cutD xs l u = xs := by
      unfold cutD
      rw [q2.length, e1, e2]
      simp [← q2.length]
    have h3' : Run G W σ (relD G) (M.ret (.tup (cutD xs l u))) m3 F3 S3 Q := h3
    rw [ec] at h3'
    exact h3'.ret s3 ⟨ad, vs, rfl, q1, q2⟩
  | flst xs =>
    obtain ⟨ad, vs, rfl, q1, q2⟩ := r4
    exact .inr ⟨ad, vs, rfl, by rw [g.hK]; exact s3.sqL q1, run_newL h3 s3 (cut_rel q2 _ _)⟩
  | ref i =>
    obtain ⟨ad, rfl, q1⟩ := r4
    obtain ⟨xs, vs, _, q2, q3, h4⟩ := run_getL h3 s3 q1
    exact .inr ⟨ad, vs, rfl, .of q2, run_newL h4 s3 (cut_rel q3 _ _)⟩
  | non => exact (Run.stuck (α := D) (rel := relD G) h3).elim
  | bl _ => exact (Run.stuck (α := D) (rel := relD G) h3).elim
  | int _ => exact (Run.stuck (α := D) (rel := relD G) h3).elim
  | str _ => exact (Run.stuck (α := D) (rel := relD G) h3).elim
  | obj _ _ => exact (Run.stuck (α := D) (rel := relD G) h3).elim
  | fn _ => exact (Run.stuck (α := D) (rel := relD G) h3).elim
  | cls _ => exact (Run.stuck (α := D) (rel := relD G) h3).elim
  | ty _ => exact (Run.stuck (α := D) (rel := relD G) h3).elim
end
end MP

/-! MPE: the program's tables, attributes, calls, instances. -/
namespace MP
open PySem PySem.Spec PyProof.Rows L2

/-- what a module's name stands for -/
inductive GB where
  | fn (i : Nat) | cls (c : Nat) | int (i : Int) | free
/-- a class: its attributes in order, whether its instances never change behind __init__, its __init__, its methods -/
structure Cd where
  fields : List Str
  frozen : Bool
  init : Option Nat
  meths : List (Str × Nat)
/-- the calls that a body may make -/
structure Calls where
  fn : Nat → List D → M D
  new : Nat → List D → M D
/-- what becomes of a statement -/
inductive RS where
  | nx (ρ : En) (S : Store) | rt (d : D) (S : Store) | bk (ρ : En) (S : Store) | ct (ρ : En) (S : Store) | ex (e : Exn) (ρ : En) (S : Store)
abbrev Sv := En → Store → Option RS
/-- a function: its parameters, its names -/
structure Fd where
  ps : List Str
  N : List Str
structure Pg where
  gl : List (Str × GB)
  cls : List Cd
  fns : List Fd
def Pg.fields (Γ : Pg) (c : Nat) : List Str := match Γ.cls[c]? with
  | some cd => cd.fields
  | none => []

/-- the types of the values that are served -/
def bTypes : List String := ["NoneType", "bool", "int", "str", "list", "tuple", "dict"]
/-- the written part is as the tables tell -/
structure WF (Γ : Pg) (G : GW) (mg : Str → Option Value) : Prop where
  fields : G.fields = Γ.fields
  fn : ∀ x i, Γ.gl.lookup x = some (.fn i) → mg x = some (.ref (G.fnA i)) ∧ PySem.W.keepIn G.K (.ref (G.fnA i)) = true
  cl : ∀ x c, Γ.gl.lookup x = some (.cls c) → mg x = some (.ref (G.clA c))
  int : ∀ x i, Γ.gl.lookup x = some (.int i) → ∃ t, mg x = some (.int i t)
  free : ∀ x, Γ.gl.lookup x = some .free → mg x = none
  cls : ∀ c cd, Γ.cls[c]? = some cd → Cls G.K (G.clA c)
  noat : ∀ c f, f ∈ Γ.fields c → NoAttr G.K (G.clA c) f
  ini : ∀ c cd i, Γ.cls[c]? = some cd → cd.init = some i → Mk G.K (G.clA c) (G.fnA i)
  cly : ∀ c cd, Γ.cls[c]? = some cd → PySem.W.findIn G.K (.ref (G.clA c)) "__class__" = some (some (.builtin "object.__class__")) ∧ PySem.W.mroIn G.K (G.clA c) (.type "object") = some true
  clz : PySem.W.specialIn G.K (.builtin "object.__class__") "__get__" = some (some (.builtin "getset_descriptor.__get__")) ∧ PySem.W.takesIn G.K (.builtin "object.__class__") = some true
  isC : ∀ c c' cd cd', Γ.cls[c]? = some cd → Γ.cls[c']? = some cd' → PySem.W.kitOne G.K (.ref (G.clA c)) (.ref (G.clA c')) = some (c == c')
  sub : ∀ c c' cd cd', Γ.cls[c]? = some cd → Γ.cls[c']? = some cd' → c ≠ c' → PySem.W.subIn G.K (.ref (G.clA c')) (.ref (G.clA c)) = some false
  isT : ∀ c cd T, Γ.cls[c]? = some cd → T ∈ bTypes → PySem.W.kitOne G.K (.ref (G.clA c)) (.type T) = some false ∧ PySem.W.kitOne G.K (.type T) (.ref (G.clA c)) = some false
  meth : ∀ c cd mt i, Γ.cls[c]? = some cd → cd.meths.lookup mt = some i → Meth G.K (G.clA c) mt (G.fnA i) ∧ mt ∉ cd.fields

/-! ### below: no cell from n on is named -/
mutual
def belowD (n : Nat) : D → Prop
  | .ref i => i < n
  | .tup xs | .flst xs | .obj _ xs => belowDs n xs
  | _ => True
def belowDs (n : Nat) : List D → Prop
  | [] => True
  | d :: ds => belowD n d ∧ belowDs n ds
end
def belowC (n : Nat) : Cell → Prop
  | .lst xs => belowDs n xs
  | .dct kvs => belowDs n (kvs.map (·.2))
  | .obj _ fs => belowDs n (fs.map (·.2))
def Closed (n : Nat) (S : Store) : Prop := ∀ c ∈ S, belowC n c
section
variable {G : GW} {m : List Addr} {F : Hp}
mutual
theorem relD.below : ∀ {d : D} {v : V}, relD G m F d v → belowD m.length d
  | .ref _, _, ⟨_, _, h⟩ => (List.getElem?_eq_some_iff.mp h).1
  | .tup _, _, ⟨_, _, _, _, h⟩ => relDs.below h
  | .flst _, _, ⟨_, _, _, _, h⟩ => relDs.below h
  | .obj _ _, _, ⟨_, _, _, _, _, _, h⟩ => relDs.below h
  | .non, _, _ => trivial
  | .bl _, _, _ => trivial
  | .int _, _, _ => trivial
  | .str _, _, _ => trivial
  | .fn _, _, _ => trivial
  | .cls _, _, _ => trivial
  | .ty _, _, _ => trivial
theorem relDs.below : ∀ {ds : List D} {vs : List V}, relDs G m F ds vs → belowDs m.length ds
  | [], _, _ => trivial
  | _ :: _, _, ⟨_, _, _, h1, h2⟩ => ⟨relD.below h1, relDs.below h2⟩
end
theorem take_at {m : List Addr} {n i : Nat} (h : i < n) : (m.take n)[i]? = m[i]? := by rw [List.getElem?_take, if_pos h]
mutual
theorem relD.cut {n : Nat} : ∀ {d : D} {v : V}, relD G m F d v → belowD n d → relD G (m.take n) F d v
  | .ref _, _, ⟨a, e, h⟩, b => ⟨a, e, by rw [take_at b]; exact h⟩
  | .tup _, _, ⟨a, vs, e, h1, h⟩, b => ⟨a, vs, e, h1, relDs.cut h b⟩
  | .flst _, _, ⟨a, vs, e, h1, h⟩, b => ⟨a, vs, e, h1, relDs.cut h b⟩
  | .obj _ _, _, ⟨a, dx, fs, e, h1, h2, h⟩, b => ⟨a, dx, fs, e, h1, h2, relDs.cut h b⟩
  | .non, _, h, _ => h
  | .bl _, _, h, _ => h
  | .int _, _, h, _ => h
  | .str _, _, h, _ => h
  | .fn _, _, h, _ => h
  | .cls _, _, h, _ => h
  | .ty _, _, h, _ => h
theorem relDs.cut {n : Nat} : ∀ {ds : List D} {vs : List V}, relDs G m F ds vs → belowDs n ds → relDs G (m.take n) F ds vs
  | [], _, h, _ => h
  | _ :: _, _, ⟨v, r, e, h1, h2⟩, ⟨b1, b2⟩ => ⟨v, r, e, relD.cut h1 b1, relDs.cut h2 b2⟩
end
theorem relC.below {c : Cell} {o : Option HO} (h : relC G m F c o) : belowC m.length c := by
  cases c with
  | lst _ => obtain ⟨_, _, h⟩ := h; exact h.below
  | dct _ => obtain ⟨_, _, _, h⟩ := h; exact h.below
  | obj _ _ => obtain ⟨_, _, _, _, h⟩ := h; exact h.below
theorem relC.cut {n : Nat} {c : Cell} {o : Option HO} (h : relC G m F c o) (b : belowC n c) : relC G (m.take n) F c o := by
  cases c with
  | lst _ => obtain ⟨vs, e, h⟩ := h; exact ⟨vs, e, h.cut b⟩
  | dct _ => obtain ⟨ws, e, e2, h⟩ := h; exact ⟨ws, e, e2, h.cut b⟩
  | obj _ _ => obtain ⟨dx, ws, e, e2, h⟩ := h; exact ⟨dx, ws, e, e2, h.cut b⟩
theorem Sim.closed {S : Store} {H : Hp} (s : Sim G m F S H) : Closed S.length S := fun c hc => by
  obtain ⟨i, hi, e⟩ := List.getElem_of_mem hc
  obtain ⟨a, _, h⟩ := s.at' (i := i) (c := c) (by rw [List.getElem?_eq_getElem hi, e])
  rw [← s.len]
  exact h.below
theorem Sim.cut {S : Store} {H : Hp} {n : Nat} (s : Sim G m F S H) (hc : Closed n (S.take n)) : Sim G (m.take n) F (S.take n) H := by
  refine ⟨s.sub, s.nod.sublist (List.take_sublist _ _), by simp [s.len], fun a ha => s.fre a (List.mem_of_mem_take ha), fun i a c h1 h2 => ?_, s.tab.sub fun a ha => List.mem_of_mem_take ha⟩
  have hi : i < n := by
    have := (List.getElem?_eq_some_iff.mp h1).1
    simp at this; omega
  have h1' : m[i]? = some a := by rw [take_at hi] at h1; exact h1
  have h2' : S[i]? = some c := by rw [List.getElem?_take, if_pos hi] at h2; exact h2
  exact (s.cel i a c h1' h2').cut (hc c (List.mem_of_getElem? h2))
theorem Ext.cut {m' : List Addr} {F' : Hp} {n : Nat} (e : Ext m F m' F') (h : m.length = n) : Ext m F (m'.take n) F' := ⟨fun i a q => by
  rw [take_at (by rw [← h]; exact (List.getElem?_eq_some_iff.mp q).1)]
  exact e.pre i a q, e.sub⟩
end
/-- may what lies from n on be forgotten? -/
def mayCut (S S' : Store) : Prop := S'.take S.length = S ∨ Closed S.length (S'.take S.length)
open Classical in
/-- a call's end: what it made and nobody names is forgotten -/
noncomputable def dropR (S : Store) (d : D) (S' : Store) : Store := if S'.length ≤ S.length then S' else if mayCut S S' ∧ belowD S.length d then S'.take S.length else S'
section
variable {G : GW} {m m' : List Addr} {F F' : Hp} {S S' : Store} {H H' : Hp} {d : D}
theorem Sim.mayCut (s : Sim G m F S H) (h : MP.mayCut S S') : Closed S.length (S'.take S.length) := by
  rcases h with h | h
  · rw [h]; exact s.closed
  · exact h
theorem dropR_ok (s : Sim G m F S H) (e : Ext m F m' F') (s' : Sim G m' F' S' H') {v : V} (r : relD G m' F' d v) : ∃ m2, Ext m F m2 F' ∧ Sim G m2 F' (dropR S d S') H' ∧ relD G m2 F' d v := by
  unfold dropR
  split
  · exact ⟨m', e, s', r⟩
  · split
    · rename_i h
      exact ⟨m'.take S.length, e.cut s.len, s'.cut (s.mayCut h.1), r.cut h.2⟩
    · exact ⟨m', e, s', r⟩
theorem dropR_len (h : S'.length ≤ S.length) : dropR S d S' = S' := if_pos h
theorem dropR_pure (h : S'.take S.length = S) (b : belowD S.length d) : dropR S d S' = S := by
  unfold dropR
  split
  · rename_i hl
    rw [List.take_of_length_le hl] at h; exact h
  · rw [if_pos ⟨.inl h, b⟩]; exact h
theorem dropR_cut (h : Closed S.length (S'.take S.length)) (b : belowD S.length d) : dropR S d S' = S'.take S.length := by
  unfold dropR
  split
  · rename_i hl
    rw [List.take_of_length_le hl]
  · rw [if_pos ⟨.inr h, b⟩]
end
/-- a function's call, by its body -/
noncomputable def runF (f : Fd) (b : Calls → Sv) (C : Calls) (ds : List D) : M D := fun S =>
  if ds.length = f.ps.length then
    match b C (ds.map some ++ List.replicate (f.N.length - ds.length) none) S with
    | some (.rt d S') => some (.ok d (dropR S d S'))
    | some (.nx _ S') => some (.ok .non (dropR S .non S'))
    | some (.ex e _ S') => some (.ex e S')
    | _ => none
  else none
open Classical in
/-- a new instance -/
noncomputable def runMk (Γ : Pg) (fn : Nat → List D → M D) (c : Nat) (ds : List D) : M D := fun S => match Γ.cls[c]? with
  | some cd => (match cd.init with
    | some i => (match fn i (.ref S.length :: ds) (S ++ [.obj c []]) with
      | some (.ok .non S') => (match S'[S.length]? with
        | some (.obj c' fs) =>
          if cd.frozen then
            (if c' = c ∧ fs.map (·.1) = cd.fields ∧ S'.length = S.length + 1 ∧ belowDs S.length (fs.map (·.2)) ∧ mayCut S S' then some (.ok (.obj c (fs.map (·.2))) (S'.take S.length)) else none)
          else some (.ok (.ref S.length) S')
        | _ => none)
      | some (.ex e S') => some (.ex e S')
      | _ => none)
    | none => none)
  | none => none
noncomputable def callsAt (Γ : Pg) (bs : List (Calls → Sv)) : Nat → Calls
  | 0 => ⟨fun _ _ => .stuck, fun _ _ => .stuck⟩
  | k + 1 => ⟨fun i ds => match Γ.fns[i]?, bs[i]? with
      | some f, some b => runF f b (callsAt Γ bs k) ds
      | _, _ => .stuck, runMk Γ (callsAt Γ bs k).fn⟩

/-- a function's promise: what the interpreter's call says -/
def spF (G : GW) (x : List D → M D) (n : Nat) : Sp := fun vs H Q E => vs.length = n ∧ ∃ m F S ds, Sim G m F S H ∧ relDs G m F ds vs ∧ Run G (fun c d _ H' => E c d H') [] (relD G) (x ds) m F S Q
/-- the functions at level k are as fn tells -/
def FnsOk (Γ : Pg) (G : GW) (P : Program) (w : World) (mg : Str → Option Value) (base : Heap) (fn : Nat → List D → M D) (k : Nat) : Prop :=
  ∀ i f, Γ.fns[i]? = some f → ∃ fd, FnOk P w G.K mg base (CX P w) (k + 3) (G.fnA i) fd f.ps (spF G (fn i) f.ps.length) ∧ Binds G.K fd f.ps []
/-- the calls that a body may make are as C tells -/
structure CallsOk (Γ : Pg) (G : GW) (P : Program) (w : World) (mg : Str → Option Value) (base : Heap) (C : Calls) (k : Nat) : Prop where
  fn : FnsOk Γ G P w mg base C.fn k
  new : (∀ c ds S, C.new c ds S = none) ∨ ∃ j fn, j + 1 ≤ k ∧ C.new = runMk Γ fn ∧ FnsOk Γ G P w mg base fn j
end MP

/-! MPF: attributes, calls of own functions, new instances: they are as told. -/
namespace MP
open PySem PySem.Spec PyProof.Rows L2

/-- o.f -/
def oFld (Γ : Pg) (f : Str) : D → M D
  | .obj c xs => optM (((Γ.fields c).zip xs).lookup f)
  | .ref r => fun S => match S[r]? with
    | some (.obj c fs) => if f ∈ Γ.fields c then (match fs.lookup f with
      | some d => some (.ok d S)
      | none => none) else none
    | _ => none
  | _ => .stuck
def eCall (C : Calls) (i n : Nat) (a : Av) : Ev := fun ρ => .bind (a ρ) fun ds => .guard (ds.length = n) (C.fn i ds)
def eNew (C : Calls) (c n : Nat) (a : Av) : Ev := fun ρ => .bind (a ρ) fun ds => .guard (ds.length = n) (C.new c ds)

section
variable {G : GW} {m : List Addr} {F : Hp}
theorem lookup_rel {f : Str} {d : D} : ∀ {ns : List Str} {ds : List D} {ws : List (Str × V)}, ws.map (·.1) = ns → relDs G m F ds (ws.map (·.2)) → (ns.zip ds).lookup f = some d → ∃ v, ws.lookup f = some v ∧ relD G m F d v
  | [], _, _, _, _, h => by simp at h
  | _ :: _, [], _, _, _, h => by simp at h
  | n :: ns, x :: ds, [], h, _, _ => by simp at h
  | n :: ns, x :: ds, (g, v) :: ws, hn, hr, h => by
    simp only [List.map_cons, List.cons.injEq] at hn
    obtain ⟨rfl, hn⟩ := hn
    obtain ⟨v', r, e, r1, r2⟩ := hr
    simp only [List.map_cons, List.cons.injEq] at e
    obtain ⟨rfl, rfl⟩ := e
    rw [List.zip_cons_cons, List.lookup_cons] at h
    rw [List.lookup_cons]
    cases q : (f == g) with
    | true => rw [q] at h; cases h; exact ⟨v, rfl, r1⟩
    | false => rw [q] at h; exact lookup_rel hn r2 h
theorem lookup_rel2 {f : Str} {d : D} : ∀ {fs : List (Str × D)} {ws : List (Str × V)}, fs.map (·.1) = ws.map (·.1) → relDs G m F (fs.map (·.2)) (ws.map (·.2)) → fs.lookup f = some d → ∃ v, ws.lookup f = some v ∧ relD G m F d v
  | [], _, _, _, h => by simp at h
  | (a, x) :: fs, [], h, _, _ => by simp at h
  | (a, x) :: fs, (g, v) :: ws, hn, hr, h => by
    simp only [List.map_cons, List.cons.injEq] at hn
    obtain ⟨rfl, hn⟩ := hn
    obtain ⟨v', r, e, r1, r2⟩ := hr
    simp only [List.map_cons, List.cons.injEq] at e
    obtain ⟨rfl, rfl⟩ := e
    rw [List.lookup_cons] at h ⊢
    cases q : (f == a) with
    | true => rw [q] at h; cases h; exact ⟨v, rfl, r1⟩
    | false => rw [q] at h; exact lookup_rel2 hn r2 h
theorem lookup_none2 {f : Str} : ∀ {fs : List (Str × D)} {ws : List (Str × V)}, fs.map (·.1) = ws.map (·.1) → fs.lookup f = none → ws.lookup f = none
  | [], [], _, _ => rfl
  | [], _ :: _, h, _ => by simp at h
  | _ :: _, [], h, _ => by simp at h
  | (a, x) :: fs, (g, v) :: ws, hn, h => by
    simp only [List.map_cons, List.cons.injEq] at hn
    obtain ⟨rfl, hn⟩ := hn
    rw [List.lookup_cons] at h ⊢
    cases q : (f == a) with
    | true => rw [q] at h; cases h
    | false => rw [q] at h; exact lookup_none2 hn h
theorem mem_of_zip_lookup {f : Str} {d : D} : ∀ {ns : List Str} {ds : List D}, (ns.zip ds).lookup f = some d → f ∈ ns
  | [], _, h => by simp at h
  | _ :: _, [], h => by simp at h
  | n :: ns, x :: ds, h => by
    rw [List.zip_cons_cons, List.lookup_cons] at h
    cases q : (f == n) with
    | true => exact List.mem_cons.mpr (.inl (beq_iff_eq.mp q))
    | false => rw [q] at h; exact List.mem_cons_of_mem _ (mem_of_zip_lookup h)
end

/-- the receiver is no super() -/
def plainBase : Expr → Bool
  | .Call (.Name _ _) [] [] _ => false
  | _ => true
theorem plainBase_eq {o : Expr} (h : plainBase o = true) (attr : Str) (env : Env) (whole : Sem Value) : attributeBase o attr env whole = whole := by
  unfold attributeBase
  split
  · cases h
  · rfl

/-- more of a body's context -/
structure GY (Γ : Pg) (X : Cx) (G : GW) (W : WX) (C : Calls) (k : Nat) : Prop extends GX X G W k where
  wf : WF Γ G X.mg
  calls : CallsOk Γ G X.prog X.w X.mg X.base C k

section
variable {Γ : Pg} {X : Cx} {G : GW} {W : WX} {C : Calls} {a b c e : Expr} {pos : Pos} {fa fb : Ev} {k : Nat}

theorem fld_ok (g : GY Γ X G W C k) {f : Str} {b : Bool} {σ : St} {H : Hp} {pins : List (Addr × Obj)} {s : Shared} {x : V} {v : Value} {Q : VK} {m : List Addr} {F : Hp} {S : Store} {d : D} (I : Inv X pins σ H s) (rx : RelV x v) (s' : Sim G m F S H) (hx : relD G m F d x) (h : Run G W σ (relD G) (oFld Γ f d) m F S Q) :
    wpAny (model X.prog X.w) X.A (getAttr v f b) (EP X pins σ Q) X.xe s := by
  cases d with
  | obj c xs =>
    obtain ⟨d', h1, h2⟩ := run_opt (show Run G W σ (relD G) (optM (((Γ.fields c).zip xs).lookup f)) m F S Q from h) s'
    obtain ⟨a, dx, fs, rfl, q1, q2, q3⟩ := hx
    rw [g.wf.fields] at q2
    obtain ⟨w, h3, h4⟩ := lookup_rel q2 q3 h1
    have hc : ∃ cd, Γ.cls[c]? = some cd := by
      have hm := mem_of_zip_lookup h1
      unfold Pg.fields at hm
      split at hm
      · rename_i cd hcd; exact ⟨cd, hcd⟩
      · cases hm
    obtain ⟨cd, hcd⟩ := hc
    have cl := g.wf.cls c cd hcd
    have na := g.wf.noat c f (mem_of_zip_lookup h1)
    rw [← g.hK] at cl na
    obtain rfl : v = Value.ref a := rx
    exact getattr_ok I (s'.sub _ _ q1) cl na h3 fun u s2 I2 ru => ⟨w, H, I2, ru, h2 _ h4⟩
  | ref r =>
    obtain ⟨a, rfl, ha⟩ := hx
    obtain ⟨r', q, z⟩ := h
    unfold oFld at q
    simp only at q
    split at q
    · rename_i c fs e1
      obtain ⟨dx, ws, h1, h2, h3⟩ := s'.cel _ a _ ha e1
      split at q
      · rename_i hf
        split at q
        · rename_i d' hd
          cases q
          obtain ⟨w, h4, h5⟩ := lookup_rel2 h2 h3 hd
          have hc : ∃ cd, Γ.cls[c]? = some cd := by
            unfold Pg.fields at hf
            split at hf
            · rename_i cd hcd; exact ⟨cd, hcd⟩
            · cases hf
          obtain ⟨cd, hcd⟩ := hc
          have cl := g.wf.cls c cd hcd
          have na := g.wf.noat c f hf
          rw [← g.hK] at cl na
          obtain rfl : v = Value.ref a := rx
          exact getattr_ok I h1 cl na h4 fun u s2 I2 ru => ⟨w, H, I2, ru, z m F H _ .refl s' h5⟩
        · cases q
      · cases q
    · cases q
  | non => exact (Run.stuck (α := D) (rel := relD G) h).elim
  | bl _ => exact (Run.stuck (α := D) (rel := relD G) h).elim
  | int _ => exact (Run.stuck (α := D) (rel := relD G) h).elim
  | str _ => exact (Run.stuck (α := D) (rel := relD G) h).elim
  | tup _ => exact (Run.stuck (α := D) (rel := relD G) h).elim
  | flst _ => exact (Run.stuck (α := D) (rel := relD G) h).elim
  | fn _ => exact (Run.stuck (α := D) (rel := relD G) h).elim
  | cls _ => exact (Run.stuck (α := D) (rel := relD G) h).elim
  | ty _ => exact (Run.stuck (α := D) (rel := relD G) h).elim
theorem se_fld (g : GY Γ X G W C k) {f : Str} (ha : SE X G W a fa) (hb : plainBase a = true) : SE X G W (.Attribute a f pos) (eUn (oFld Γ f) fa) := by
  refine ⟨fun pins s σ H Q I h => ?_⟩
  exact attr_of (plainBase_eq hb _ _ _) (thn (ha.run pins s σ H _ I (tM.bind h)) fun v s1 ⟨x, H1, I1, r1, m, F, ρ, S, d, s', _, hx, r⟩ => fld_ok g I1 r1 s' hx r)

/-- a function runs -/
theorem fn_run {j : Nat} {fn : Nat → List D → M D} (fo : FnsOk Γ G X.prog X.w X.mg X.base fn j) (hr : Room (j + 3) X.A) (tk : Takes X W) (hK : X.K = G.K) {i : Nat} {f : Fd} (hf : Γ.fns[i]? = some f) {σ : St} {H : Hp} {pins : List (Addr × Obj)} {s : Shared} {us : List Value} {vs : List V} {Q : VK} {m : List Addr} {F : Hp} {S : Store} {ds : List D}
    (I : Inv X pins σ H s) (rv : Vals vs us) (s' : Sim G m F S H) (hx : relDs G m F ds vs) (hl : ds.length = f.ps.length) (h : Run G W σ (relD G) (fn i ds) m F S Q) : wpAny (model X.prog X.w) X.A (call (.ref (G.fnA i)) us) (EP X pins σ Q) X.xe s := by
  obtain ⟨fd, Fo, Bo⟩ := fo i f hf
  rw [← hK] at Fo Bo
  exact run_fnS (E := WE W) Fo hr Bo (passAt tk σ) I rv ⟨by rw [← hx.length]; exact hl, m, F, S, ds, s', hx, h⟩

theorem av_length {es : List Expr} : True := trivial
theorem se_call (g : GY Γ X G W C k) {x : Str} {p : Pos} {i : Nat} {f : Fd} {es : List Expr} {ga : Av} (hx : Γ.gl.lookup x = some (.fn i)) (hg : Gl X x) (hf : Γ.fns[i]? = some f) (ha : SA X G W (e :: es) ga) (hdb : (x == ("__debug__" : Str)) = false)
    (he : starEach (e :: es) X.env = (false, eval e X.env) :: starEach es X.env) (hpl : (backTo pos (starEach es X.env)).any (·.1) = false) : SE X G W (.Call (.Name x p) (e :: es) [] pos) (eCall C i f.ps.length ga) := by
  refine ⟨fun pins s σ H Q I h => ?_⟩
  obtain ⟨hm, hk⟩ := g.wf.fn x i hx
  rw [← g.hK] at hk
  refine wpAny_Call_Name_kw (ld_glob I hg hm ?_ hdb)
  refine PySem.W.callWith_K (h₀ := X.base) I.ok.mod.kin hk (thn (ha.run pos pins s σ H _ I (tM.bind h)) fun us s1 ⟨vs, H1, I1, rv, m, F, ρ, S, ds, s', _, hxs, r⟩ => ⟨I1.kIn, ?_⟩) he hpl
  obtain ⟨hl, r⟩ := r.guard
  exact fn_run g.calls.fn g.room g.tk g.hK hf I1 rv s' hxs hl r
theorem se_call0 (g : GY Γ X G W C k) {x : Str} {p : Pos} {i : Nat} {f : Fd} (hx : Γ.gl.lookup x = some (.fn i)) (hg : Gl X x) (hf : Γ.fns[i]? = some f) (hdb : (x == ("__debug__" : Str)) = false) : SE X G W (.Call (.Name x p) [] [] pos) (eCall C i f.ps.length aNil) := by
  refine ⟨fun pins s σ H Q I h => ?_⟩
  obtain ⟨hm, hk⟩ := g.wf.fn x i hx
  rw [← g.hK] at hk
  refine wpAny_Call_Name_kw (ld_glob I hg hm ?_ hdb)
  obtain ⟨m, F, ρ, S, s', _, r⟩ := h
  have r : Run G W σ (relD G) (.guard ([].length = f.ps.length) (C.fn i [])) m F S Q := r
  obtain ⟨hl, r⟩ := r.guard
  exact PySem.W.callWith_K0 I.kIn hk (fn_run (us := []) (vs := []) g.calls.fn g.room g.tk g.hK hf I .nil s' relDs.nil hl r)

/-- an instance is made -/
theorem new_run (g : GY Γ X G W C k) {c : Nat} {cd : Cd} {i : Nat} {f : Fd} (hc : Γ.cls[c]? = some cd) (hi : cd.init = some i) (hf : Γ.fns[i]? = some f) {σ : St} {H : Hp} {pins : List (Addr × Obj)} {s : Shared} {us : List Value} {vs : List V} {Q : VK} {m : List Addr} {F : Hp} {S : Store} {ds : List D}
    (I : Inv X pins σ H s) (rv : Vals vs us) (s' : Sim G m F S H) (hx : relDs G m F ds vs) (hl : ds.length + 1 = f.ps.length) (h : Run G W σ (relD G) (C.new c ds) m F S Q) : wpAny (model X.prog X.w) X.A (call (.ref (G.clA c)) us) (EP X pins σ Q) X.xe s := by
  obtain ⟨r, q, h⟩ := h
  rcases g.calls.new with n | ⟨j, fn, hj, n, fo⟩
  · rw [n] at q; cases q
  rw [n] at q
  obtain ⟨fd, Fo, Bo⟩ := fo i f hf
  rw [← g.hK] at Fo Bo
  have mk := g.wf.ini c cd i hc hi
  rw [← g.hK] at mk
  -- run_make of the library, with the wish at the caller's slots
  have hn1 := I.hok.fresh (Nat.le_succ s.heap.objs.size)
  have hn0 := I.hok.fresh (Nat.le_refl s.heap.objs.size)
  have I2 := Inv.made (C := G.clA c) I
  have x0 := s'.newF (p := s.heap.objs.size) (o := .own (s.heap.objs.size + 1)) hn0
  generalize hF1 : upd F s.heap.objs.size (.own (s.heap.objs.size + 1)) = F1 at x0
  have x1 := x0.1.newC (p := s.heap.objs.size + 1) (o := .ins (G.clA c) s.heap.objs.size []) (c := .obj c []) (by rw [upd_ne (Nat.succ_ne_self _)]; exact hn1) ⟨s.heap.objs.size, [], rfl, rfl, rfl⟩
  have e01 : Ext m F (m ++ [s.heap.objs.size + 1]) F1 := x0.2.trans x1.2
  have hxs : relDs G (m ++ [s.heap.objs.size + 1]) F1 (.ref S.length :: ds) (V.ref (s.heap.objs.size + 1) :: vs) := .cons ⟨_, rfl, by rw [← s'.len]; simp⟩ (hx.mono e01)
  have r2 : Vals (V.ref (s.heap.objs.size + 1) :: vs) (Value.ref (s.heap.objs.size + 1) :: us) := .cons rfl rv
  unfold runMk at q
  rw [hc] at q
  simp only [hi] at q
  cases ei : fn i (.ref S.length :: ds) (S ++ [.obj c []]) with
  | none => rw [ei] at q; cases q
  | some ri =>
    rw [ei] at q
    have sp : spF G (fn i) f.ps.length (V.ref (s.heap.objs.size + 1) :: vs) (upd (upd H s.heap.objs.size (.own (s.heap.objs.size + 1))) (s.heap.objs.size + 1) (.ins (G.clA c) s.heap.objs.size [])) (fun v H2 => v = .non ∧ Q (.ref (s.heap.objs.size + 1)) H2) (WE W σ) := by
      refine ⟨by rw [← hxs.length, List.length_cons]; exact hl, _, _, _, _, x1.1, hxs, ri, ei, ?_⟩
      cases ri with
      | ex e S' =>
        simp only at q
        cases q
        exact fun m' F' H' d ws h1 h2 h3 h4 h5 => h m' F' H' d ws (e01.trans h1) h2 h3 h4 h5
      | ok dn S' =>
        cases dn with
        | non =>
          simp only at q
          intro m' F' H' b h1 h2 hb
          refine ⟨hb, ?_⟩
          have hml : m.length = S.length := s'.len
          have ha : m'[S.length]? = some (s.heap.objs.size + 1) := h1.pre _ _ (by rw [← hml]; simp)
          split at q
          · rename_i c' fs ec
            obtain ⟨dx, ws, e1, e2, e3⟩ := h2.cel _ _ _ ha ec
            split at q
            · -- frozen
              split at q
              · rename_i hcond
                obtain ⟨rfl, hfs, hlen, hbel, hcut⟩ := hcond
                cases q
                have hcl := s'.mayCut hcut
                have s3 := h2.cut (n := S.length) hcl
                have hnm : s.heap.objs.size + 1 ∉ m'.take S.length := fun z => by
                  obtain ⟨j2, hj2, ej⟩ := List.getElem_of_mem z
                  have hj3 : j2 < S.length := by simp at hj2; omega
                  have hj4 : m'[j2]? = some (s.heap.objs.size + 1) := by
                    have := List.getElem?_eq_getElem hj2
                    rw [ej, take_at hj3] at this; exact this
                  obtain ⟨l1, q1⟩ := List.getElem?_eq_some_iff.mp hj4
                  obtain ⟨l2, q2⟩ := List.getElem?_eq_some_iff.mp ha
                  have := (List.getElem_inj h2.nod).mp (q1.trans q2.symm)
                  omega
                have hFn : F' (s.heap.objs.size + 1) = none := h2.fre _ (List.mem_of_getElem? ha)
                have e3' := e3.cut hbel
                -- the instance is frozen
                have s4 : Sim G (m'.take S.length) (upd F' (s.heap.objs.size + 1) (.ins (G.clA c') dx ws)) (S'.take S.length) H' := by
                  refine ⟨fun a u qq => ?_, s3.nod, s3.len, fun a haa => ?_, fun i2 a cc g1 g2 => ?_, ⟨s3.tab.1, fun q hq => ⟨by rw [upd_ne (fun (z : q.1 = s.heap.objs.size + 1) => (h2.tab.2 q hq).2 (by rw [z]; exact List.mem_of_getElem? ha))]; exact (s3.tab.2 q hq).1, (s3.tab.2 q hq).2⟩⟩⟩
                  · by_cases hz : a = s.heap.objs.size + 1
                    · subst hz; rw [upd_same] at qq; rw [e1]; exact qq
                    · rw [upd_ne hz] at qq; exact s3.sub a u qq
                  · rw [upd_ne (fun (z : a = s.heap.objs.size + 1) => hnm (z ▸ haa))]; exact s3.fre a haa
                  · exact (s3.cel i2 a cc g1 g2).mono ⟨fun _ _ z => z, fun a u qq => by rw [upd_ne (fun (z : a = _) => by rw [z, hFn] at qq; cases qq)]; exact qq⟩
                have eF : Ext m F (m'.take S.length) (upd F' (s.heap.objs.size + 1) (.ins (G.clA c') dx ws)) := by
                  have := (e01.trans h1).cut hml
                  exact ⟨this.pre, fun a u qq => by
                    have q3 := this.sub a u qq
                    rw [upd_ne (fun (z : a = _) => by rw [z, hFn] at q3; cases q3)]; exact q3⟩
                refine h _ _ H' _ eF s4 ⟨_, dx, ws, rfl, upd_same, ?_, ?_⟩
                · rw [← e2, hfs, g.wf.fields]
                  unfold Pg.fields
                  rw [hc]
                · exact e3'.mono ⟨fun _ _ z => z, fun a u qq => by rw [upd_ne (fun (z : a = _) => by rw [z, hFn] at qq; cases qq)]; exact qq⟩
              · cases q
            · cases q
              exact h m' F' H' _ (e01.trans h1) h2 ⟨_, rfl, ha⟩
          · cases q
        | _ => simp at q
    have hl2 : (Value.ref (s.heap.objs.size + 1) :: us).length = f.ps.length := by rw [← r2.length, ← hxs.length, List.length_cons]; exact hl
    have bo := Bo _ (Value.ref (s.heap.objs.size + 1) :: us) I2.kIn (by rw [List.append_nil]; exact hl2)
    rw [List.append_nil] at bo
    refine wpAny_call (make_map (f := G.fnA i) I.kIn mk.makes mk.init (beq_iff_eq.mp mk.fn) (codeAny_mono (Fo.run _ X.stack _ _ ⟨Value.ref (s.heap.objs.size + 1) :: us, []⟩ _ _ _ (WE W σ) ((g.room.mono (by omega)).make (G.clA c) us []) (I2.env0.make (G.clA c) us []) bo r2 sp) fun r s2 hq' => ?_))
    cases r with
    | error e => exact passAt g.tk σ pins _ _ e s2 I2 hq'
    | ok fl =>
      cases fl with
      | ret u =>
        obtain ⟨v, H', I3, rv3, ev, q3⟩ := I2.after hq'
        subst ev
        exact ⟨rv3, ⟨V.ref (s.heap.objs.size + 1), H', I3, rfl, q3⟩⟩
      | next => exact False.elim hq'
      | brk => exact False.elim hq'
      | cont => exact False.elim hq'
theorem se_new (g : GY Γ X G W C k) {x : Str} {p : Pos} {c : Nat} {cd : Cd} {i : Nat} {f : Fd} {es : List Expr} {ga : Av} {n : Nat} (hx : Γ.gl.lookup x = some (.cls c)) (hg : Gl X x) (hc : Γ.cls[c]? = some cd) (hi : cd.init = some i) (hf : Γ.fns[i]? = some f) (hn : n + 1 = f.ps.length) (ha : SA X G W (e :: es) ga) (hdb : (x == ("__debug__" : Str)) = false)
    (he : starEach (e :: es) X.env = (false, eval e X.env) :: starEach es X.env) (hpl : (backTo pos (starEach es X.env)).any (·.1) = false) : SE X G W (.Call (.Name x p) (e :: es) [] pos) (eNew C c n ga) := by
  refine ⟨fun pins s σ H Q I h => ?_⟩
  have hm := g.wf.cl x c hx
  have mk := g.wf.ini c cd i hc hi
  rw [← g.hK] at mk
  refine wpAny_Call_Name_kw (ld_glob I hg hm ?_ hdb)
  refine PySem.W.callWith_K (h₀ := X.base) I.ok.mod.kin mk.kp (thn (ha.run pos pins s σ H _ I (tM.bind h)) fun us s1 ⟨vs, H1, I1, rv, m, F, ρ, S, ds, s', _, hxs, r⟩ => ⟨I1.kIn, ?_⟩) he hpl
  obtain ⟨hl, r⟩ := r.guard
  exact new_run g hc hi hf I1 rv s' hxs (by omega) r
theorem se_new0 (g : GY Γ X G W C k) {x : Str} {p : Pos} {c : Nat} {cd : Cd} {i : Nat} {f : Fd} (hx : Γ.gl.lookup x = some (.cls c)) (hg : Gl X x) (hc : Γ.cls[c]? = some cd) (hi : cd.init = some i) (hf : Γ.fns[i]? = some f) (hn : 0 + 1 = f.ps.length) (hdb : (x == ("__debug__" : Str)) = false) : SE X G W (.Call (.Name x p) [] [] pos) (eNew C c 0 aNil) := by
  refine ⟨fun pins s σ H Q I h => ?_⟩
  have hm := g.wf.cl x c hx
  have mk := g.wf.ini c cd i hc hi
  rw [← g.hK] at mk
  refine wpAny_Call_Name_kw (ld_glob I hg hm ?_ hdb)
  obtain ⟨m, F, ρ, S, s', _, r⟩ := h
  have r : Run G W σ (relD G) (.guard (([] : List D).length = 0) (C.new c [])) m F S Q := r
  obtain ⟨hl, r⟩ := r.guard
  exact PySem.W.callWith_K0 I.kIn mk.kp (new_run (us := []) (vs := []) g hc hi hf I .nil s' relDs.nil (by omega) r)

/-! ### module names as values -/
theorem se_glob (g : GY Γ X G W C k) {x : Str} {p : Pos} {i : Nat} (hx : Γ.gl.lookup x = some (.fn i)) (hg : Gl X x) (hdb : (x == ("__debug__" : Str)) = false) : SE X G W (.Name x p) (eC (.fn i)) :=
  se_const (pe_glob (v := .ref (G.fnA i)) hg (g.wf.fn x i hx).1 rfl hdb) fun _ _ => rfl
theorem se_gcls (g : GY Γ X G W C k) {x : Str} {p : Pos} {i : Nat} (hx : Γ.gl.lookup x = some (.cls i)) (hg : Gl X x) (hdb : (x == ("__debug__" : Str)) = false) : SE X G W (.Name x p) (eC (.cls i)) :=
  se_const (pe_glob (v := .ref (G.clA i)) hg (g.wf.cl x i hx) rfl hdb) fun _ _ => rfl
theorem se_gint (g : GY Γ X G W C k) {x : Str} {p : Pos} {i : Int} (hx : Γ.gl.lookup x = some (.int i)) (hg : Gl X x) (hdb : (x == ("__debug__" : Str)) = false) : SE X G W (.Name x p) (eC (.int i)) := by
  obtain ⟨t, h⟩ := g.wf.int x i hx
  exact se_const (pe_glob (v := .int i) hg h ⟨t, rfl⟩ hdb) fun _ _ => rfl
theorem se_gty (g : GY Γ X G W C k) {x : Str} {p : Pos} {n : String} (hx : Γ.gl.lookup x = some .free) (hg : Gl X x) (hv : bootBuiltins x = some (.type n)) (hn : x ≠ "__name__") (hdb : (x == ("__debug__" : Str)) = false) : SE X G W (.Name x p) (eC (.ty n)) :=
  se_const (pe_bltn (v := .ty n) hg (g.wf.free x hx) hv rfl hn hdb) fun _ _ => rfl
end
end MP

/-! MPG: built-in functions and methods. -/
namespace MP
open PySem PySem.Spec PyProof.Rows L2

/-! ### isinstance -/
inductive Ty where
  | b (T : String) | c (c : Nat)
def bSub (T n : String) : Option Bool := if bTypes.contains T && bTypes.contains n then some (T == n || (T == "bool" && n == "int")) else none
theorem bSub_ok {K : PySem.W.Frag} {T n : String} {r : Bool} (h : bSub T n = some r) : PySem.W.kitOne K (.type T) (.type n) = some r := by
  have all : ∀ T ∈ bTypes, ∀ n ∈ bTypes, kitB T n = some (T == n || (T == "bool" && n == "int")) := by decide +kernel
  unfold bSub at h
  split at h
  · rename_i hc
    rw [Bool.and_eq_true, List.contains_iff_mem, List.contains_iff_mem] at hc
    cases h
    exact kit_ty (all T hc.1 n hc.2)
  · cases h
def tyD (S : Store) : D → Option Ty
  | .non => some (.b "NoneType")
  | .bl _ => some (.b "bool")
  | .int _ => some (.b "int")
  | .str _ => some (.b "str")
  | .tup _ => some (.b "tuple")
  | .flst _ => some (.b "list")
  | .obj c _ => some (.c c)
  | .ref r => (match S[r]? with
    | some (.lst _) => some (.b "list")
    | some (.dct _) => some (.b "dict")
    | some (.obj c _) => some (.c c)
    | none => none)
  | _ => none
def isi1 (Γ : Pg) : Ty → D → Option Bool
  | .b T, .ty n => bSub T n
  | .b T, .cls c => if bTypes.contains T && decide (c < Γ.cls.length) then some false else none
  | .c c, .ty n => if bTypes.contains n && decide (c < Γ.cls.length) then some false else none
  | .c c, .cls c' => if decide (c < Γ.cls.length) && decide (c' < Γ.cls.length) then some (c == c') else none
  | _, _ => none
def isiAny (Γ : Pg) (t : Ty) : List D → Option Bool
  | [] => some false
  | c :: r => match isi1 Γ t c, isiAny Γ t r with
    | some b, some b' => some (b || b')
    | _, _ => none
def isiK (Γ : Pg) (t : Ty) : D → Option Bool
  | .tup [] => none
  | .tup cs => isiAny Γ t cs
  | c => isi1 Γ t c
def fIsi (Γ : Pg) (x c : D) : M D := fun S => match tyD S x with
  | some t => (match isiK Γ t c with
    | some b => some (.ok (.bl b) S)
    | none => none)
  | none => none
def Ty.val (G : GW) : Ty → Value
  | .b T => .type T
  | .c i => .ref (G.clA i)
section
variable {Γ : Pg} {X : Cx} {G : GW} {W : WX} {C : Calls} {σ : St} {m : List Addr} {F : Hp} {S : Store} {H : Hp} {k : Nat}
theorem cls_some {c : Nat} (h : c < Γ.cls.length) : ∃ cd, Γ.cls[c]? = some cd := ⟨Γ.cls[c], List.getElem?_eq_getElem h⟩
theorem tyD_ok {mg : Str → Option Value} (wf : WF Γ G mg) (s : Sim G m F S H) {d : D} {x : V} {t : Ty} (r : relD G m F d x) (h : tyD S d = some t) (hc : ∀ c, t = .c c → c < Γ.cls.length) : TyX G.K H x (t.val G) := by
  have own : ∀ {c a dx : Nat} {fs : List (Str × V)}, c < Γ.cls.length → H a = some (.ins (G.clA c) dx fs) → TyX G.K H (.ref a) (.ref (G.clA c)) := fun {c a dx fs} hl h1 => by
    obtain ⟨cd, e⟩ := cls_some hl
    obtain ⟨y1, y2⟩ := wf.cly c cd e
    exact .base (.ins h1 (wf.cls c cd e) y1 wf.clz.1 wf.clz.2 y2)
  cases d with
  | non => cases r; cases h; exact .base (by exact .non)
  | bl _ => cases r; cases h; exact .base (by exact .bl _)
  | int _ => cases r; cases h; exact .base (by exact .int _)
  | str _ => cases r; cases h; exact .base (by exact .str _)
  | tup _ =>
    cases h
    obtain ⟨a, vs, rfl, q, _⟩ := r
    rcases q with q | ⟨o, its, n, q1, q2, _⟩
    · exact .base (by exact .tup (s.sub _ _ q))
    · exact (TyX.kTuple q1 q2 : TyX G.K H _ (.type "tuple"))
  | flst _ =>
    cases h
    obtain ⟨a, vs, rfl, q, _⟩ := r
    rcases q with (q | ⟨o, q⟩) | ⟨o, its, n, q1, q2, _⟩
    · exact .base (by exact .lst (s.sub _ _ q))
    · exact .base (by exact .frz (s.sub _ _ q))
    · exact (TyX.kList q1 q2 : TyX G.K H _ (.type "list"))
  | obj c _ =>
    cases h
    obtain ⟨a, dx, fs, rfl, q, _⟩ := r
    exact own (hc c rfl) (s.sub _ _ q)
  | ref i =>
    obtain ⟨a, rfl, ha⟩ := r
    unfold tyD at h
    simp only at h
    split at h
    · rename_i e; cases h
      obtain ⟨vs, h1, _⟩ := s.cel _ a _ ha e
      exact .base (by exact .lst h1)
    · rename_i e; cases h
      obtain ⟨vs, h1, _⟩ := s.cel _ a _ ha e
      exact .base (by exact .dK h1)
    · rename_i c fs e; cases h
      obtain ⟨dx, vs, h1, _⟩ := s.cel _ a _ ha e
      exact own (hc c rfl) h1
    · cases h
  | fn _ => cases h
  | cls _ => cases h
  | ty _ => cases h
theorem isi1_ok {mg : Str → Option Value} (wf : WF Γ G mg) {t : Ty} {d : D} {v : V} {b : Bool} (h : isi1 Γ t d = some b) (r : relD G m F d v) : ∃ u, ClsV v u ∧ PySem.W.kitOne G.K (t.val G) u = some b := by
  unfold isi1 at h
  split at h
  · cases r; exact ⟨_, .ty _, bSub_ok h⟩
  · split at h
    · rename_i hc
      cases h
      rw [Bool.and_eq_true, List.contains_iff_mem, decide_eq_true_eq] at hc
      obtain ⟨cd, e⟩ := cls_some hc.2
      cases r
      exact ⟨_, .own _, (wf.isT _ cd _ e hc.1).2⟩
    · cases h
  · split at h
    · rename_i hc
      cases h
      rw [Bool.and_eq_true, List.contains_iff_mem, decide_eq_true_eq] at hc
      obtain ⟨cd, e⟩ := cls_some hc.2
      cases r
      exact ⟨_, .ty _, (wf.isT _ cd _ e hc.1).1⟩
    · cases h
  · split at h
    · rename_i hc
      cases h
      rw [Bool.and_eq_true, decide_eq_true_eq, decide_eq_true_eq] at hc
      obtain ⟨cd, e⟩ := cls_some hc.1
      obtain ⟨cd', e'⟩ := cls_some hc.2
      cases r
      exact ⟨_, .own _, wf.isC _ _ cd cd' e e'⟩
    · cases h
  · cases h
theorem isiAny_ok {mg : Str → Option Value} (wf : WF Γ G mg) {t : Ty} : ∀ {ds : List D} {vs : List V} {b : Bool}, isiAny Γ t ds = some b → relDs G m F ds vs → ∃ us, Paired ClsV vs us ∧ PySem.W.kitAny G.K (t.val G) us = some b
  | [], _, b, h, r => by
    cases h
    rw [show _ = [] from r]
    exact ⟨[], .nil, rfl⟩
  | d :: ds, _, b, h, ⟨v, vs, rfl, r1, r2⟩ => by
    unfold isiAny at h
    split at h
    · rename_i b1 b2 h1 h2
      cases h
      obtain ⟨u, c, e⟩ := isi1_ok wf h1 r1
      obtain ⟨us, cs, es⟩ := isiAny_ok wf h2 r2
      refine ⟨u :: us, .cons c cs, ?_⟩
      unfold PySem.W.kitAny
      rw [e]
      cases b1 with
      | true => rfl
      | false => exact es
    · cases h
theorem isi_lt {t : Ty} {d : D} {b : Bool} (h : isi1 Γ t d = some b) : ∀ c, t = .c c → c < Γ.cls.length := fun c e => by
  subst e
  cases d with
  | ty n =>
    have h : (if (bTypes.contains n && decide (c < Γ.cls.length)) = true then some false else none) = some b := h
    split at h
    · rename_i hc
      rw [Bool.and_eq_true, decide_eq_true_eq] at hc
      exact hc.2
    · cases h
  | cls c' =>
    have h : (if (decide (c < Γ.cls.length) && decide (c' < Γ.cls.length)) = true then some (c == c') else none) = some b := h
    split at h
    · rename_i hc
      rw [Bool.and_eq_true, decide_eq_true_eq, decide_eq_true_eq] at hc
      exact hc.1
    · cases h
  | _ => cases h
theorem isi_ok (g : GY Γ X G W C k) {pins : List (Addr × Obj)} {s : Shared} {x y : V} {v u : Value} {Q : VK} {d e : D} (I : Inv X pins σ H s) (rx : RelV x v) (ry : RelV y u) (s' : Sim G m F S H) (hx : relD G m F d x) (hy : relD G m F e y)
    (h : Run G W σ (relD G) (fIsi Γ d e) m F S Q) : wpAny (model X.prog X.w) X.A (call (.builtin "isinstance") [v, u]) (EP X pins σ Q) X.xe s := by
  obtain ⟨r, q, h⟩ := h
  unfold fIsi at q
  split at q
  · rename_i t ht
    split at q
    · rename_i b hb
      cases q
      have hq : Q (.bl b) H := h m F H _ .refl s' rfl
      have one : isi1 Γ t e = some b → wpAny (model X.prog X.w) X.A (call (.builtin "isinstance") [v, u]) (EP X pins σ Q) X.xe s := fun h1 => by
        obtain ⟨w, c, e1⟩ := isi1_ok g.wf h1 hy
        have ty := tyD_ok g.wf s' hx ht (isi_lt h1)
        rw [← g.hK] at ty e1
        exact call_isi pins s σ H [x, y] [v, u] Q I (.cons rx (.cons ry .nil)) ⟨x, y, _, w, b, rfl, c, ty, e1, hq⟩
      cases e with
      | tup cs =>
        obtain ⟨a, vs, rfl, q1, q2⟩ := hy
        cases cs with
        | nil => cases hb
        | cons c0 cs0 =>
          have h1 : isiAny Γ t (c0 :: cs0) = some b := hb
          have hlt : ∀ c, t = .c c → c < Γ.cls.length := by
            unfold isiAny at h1
            split at h1
            · rename_i h2 _; exact isi_lt h2
            · cases h1
          have ty := tyD_ok g.wf s' hx ht hlt
          rw [← g.hK] at ty
          obtain ⟨ws, pc, e1⟩ := isiAny_ok g.wf h1 q2
          rw [← g.hK] at e1
          rcases q1 with q1 | ⟨o, its, n, k1, k2, k3, k4, k5⟩
          · exact call_isiT pins s σ H [x, .ref a] [v, u] Q I (.cons rx (.cons ry .nil)) ⟨x, a, vs, _, ws, b, rfl, s'.sub _ _ q1, pc, ty, e1, hq⟩
          · have e2 := ClsV.all pc k5
            rw [← g.hK] at k1
            obtain ⟨oc, od, dt, sl⟩ := o
            simp only at k2 k3
            subst k2 k3
            exact call_isiK pins s σ H [x, .ref a] [v, u] Q I (.cons rx (.cons ry .nil)) ⟨x, a, od, ws, n, sl, _, b, rfl, by rw [← e2]; simpa using k1, ty, e1, hq⟩
      | _ => exact one hb
    · cases q
  · cases q
end
end MP

/-! MPAny: any, all of lists and tuples of bools, integers, None. -/
namespace MP
open PySem PySem.Spec PyProof.Rows L2
def trV : V → Option Bool
  | .bl b => some b
  | .int i => some (i != 0)
  | .non => some false
  | _ => none
def TrVs (vs : List V) (bs : List Bool) : Prop := vs.map trV = bs.map some
theorem truth_vals {prog : Program} {w : World} {A : Around} {vs : List V} {bs : List Bool} {its : List Value} (r : Vals vs its) (h : TrVs vs bs) : TruthOf prog w A (fun i v => its.toArray[i]? = some v) (fun i => bs.getD i false) := fun i v s Q E hv hq => by
  have hv' : its[i]? = some v := by simpa using hv
  have hi : i < vs.length := by rw [r.length]; exact (List.getElem?_eq_some_iff.mp hv').1
  obtain ⟨u, hu, ru⟩ := r.get (List.getElem?_eq_getElem hi)
  rw [hv'] at hu
  cases hu
  have hl : vs.length = bs.length := by have := congrArg List.length h; simpa using this
  have hb : trV vs[i] = some (bs[i]'(by omega)) := by
    have := congrArg (fun l => l[i]?) h
    simp only [List.getElem?_map, List.getElem?_eq_getElem hi, List.getElem?_eq_getElem (show i < bs.length by omega), Option.map_some] at this
    exact Option.some.inj this
  have hg : bs.getD i false = bs[i]'(by omega) := by rw [List.getD_eq_getElem?_getD, List.getElem?_eq_getElem (show i < bs.length by omega)]; rfl
  have hq' : Q (bs.getD i false) s := hq
  rw [hg] at hq'
  generalize hx : vs[i] = x at hb ru
  cases x with
  | bl b =>
    obtain rfl : v = .bool b := ru
    rw [← Option.some.inj hb] at hq'
    exact wpAny_truthy_bool hq'
  | int z =>
    obtain ⟨t, rfl⟩ := ru
    rw [← Option.some.inj hb] at hq'
    exact truthy_int hq'
  | non =>
    obtain rfl : v = .none := ru
    have hb' := Option.some.inj hb
    rw [← hb'] at hq'
    exact fun _ _ _ => hq'
  | _ => cases hb
theorem iter_tup {prog : Program} {w : World} {A : Around} {E : Value → Shared → Prop} {s : Shared} {l : Addr} {items : Array Value} {Q : Value → Shared → Prop} (hl : s.heap.IsTuple l items)
    (h : ∀ s₂ : Shared, s₂ = { s with heap := s.heap.push { cls := .type "tuple_iterator", data := .fields #[.ref l, .int 0 0] } } →
      (s₂.heap.IsTupleIter s.heap.objs.size l 0 ∧ s₂.heap.IsTuple l items) → l ≠ s.heap.objs.size → Q (.ref s.heap.objs.size) s₂) : wpAny (model prog w) A (pyIter (.ref l)) Q E s := by
  have hlt : l < s.heap.objs.size := by obtain ⟨_, e, _⟩ := hl; exact Heap.lt_size e
  exact wpAny_pyIter_tuple hl (h _ rfl ⟨⟨_, Heap.get?_push_size _ rfl, rfl, rfl⟩, hl.push _⟩ (Nat.ne_of_lt hlt))
def rAny2 (K : PySem.W.Frag) (f : List Bool → Bool) : List V → Hp → VK → Prop := fun vs H Q => ∃ (a : Addr) (xs : List V) (bs : List Bool), vs = [V.ref a] ∧ (SqL K H a xs ∨ SqT K H a xs) ∧ TrVs xs bs ∧ Q (.bl (f bs)) H
section
variable {X : Cx}
theorem cr_any2 (hc : X.calm = true) : CallR X (.builtin "any") (rAny2 X.K fun bs => bs.any id) := by
  intro pins s σ H vs us Q I r h
  obtain ⟨a, xs, bs, rfl, hs, ht, q⟩ := h
  rw [Vals.ref1 r]
  have hlen : xs.length = bs.length := by have := congrArg List.length ht; simpa using this
  have fin : ∀ (it : Addr) (its : List Value), xs.length = its.length → ∀ (h' : Heap) (tk : Nat) (c : Obj), it = s.heap.objs.size → (∀ b o, b ∉ [it] → (s.heap.push c).get? b = some o → h'.get? b = some o) → EP X pins σ Q (.bool ((List.range its.toArray.size).any fun i => bs.getD i false)) { s with heap := h', toks := tk } := by
    intro it its hl h' tk c hit hk
    refine ⟨.bl _, H, I.kept fun b o eo => hk b o (fun hmem => ?_) (Heap.get?_push_of_some _ eo), ?_, q⟩
    · rcases List.mem_cons.mp hmem with e1 | hmem
      · exact absurd (hit ▸ e1 ▸ Heap.lt_size eo) (Nat.lt_irrefl _)
      · cases hmem
    · show Value.bool _ = Value.bool (bs.any id)
      rw [← L2.any_range, List.size_toArray, ← hl, hlen]
  rcases hs with hs | hs
  · obtain ⟨its, rv, hl, _⟩ := I.list hs
    refine call_any_walk (iter_any hl.isList fun s₂ e2 st hne => ?_)
    subst e2
    exact ⟨_, _, _, _, _, _, _, rfl, Walks.list (A := X.A.in1) (I.ok.hd hc) _ a hne its.toArray, st, truth_vals rv ht, fun h' tk hk => fin _ its rv.length h' tk _ rfl hk⟩
  · obtain ⟨its, rv, hl, _⟩ := I.tuple hs
    refine call_any_walk (iter_tup (show s.heap.IsTuple a its.toArray from hl) fun s₂ e2 st hne => ?_)
    subst e2
    exact ⟨_, _, _, _, _, _, _, rfl, Walks.tuple (A := X.A.in1) (I.ok.hd hc) _ a hne its.toArray, st, truth_vals rv ht, fun h' tk hk => fin _ its rv.length h' tk _ rfl hk⟩
theorem cr_all2 (hc : X.calm = true) : CallR X (.builtin "all") (rAny2 X.K fun bs => bs.all id) := by
  intro pins s σ H vs us Q I r h
  obtain ⟨a, xs, bs, rfl, hs, ht, q⟩ := h
  rw [Vals.ref1 r]
  have hlen : xs.length = bs.length := by have := congrArg List.length ht; simpa using this
  have fin : ∀ (it : Addr) (its : List Value), xs.length = its.length → ∀ (h' : Heap) (tk : Nat) (c : Obj), it = s.heap.objs.size → (∀ b o, b ∉ [it] → (s.heap.push c).get? b = some o → h'.get? b = some o) → EP X pins σ Q (.bool ((List.range its.toArray.size).all fun i => bs.getD i false)) { s with heap := h', toks := tk } := by
    intro it its hl h' tk c hit hk
    refine ⟨.bl _, H, I.kept fun b o eo => hk b o (fun hmem => ?_) (Heap.get?_push_of_some _ eo), ?_, q⟩
    · rcases List.mem_cons.mp hmem with e1 | hmem
      · exact absurd (hit ▸ e1 ▸ Heap.lt_size eo) (Nat.lt_irrefl _)
      · cases hmem
    · show Value.bool _ = Value.bool (bs.all id)
      rw [← L2.all_range, List.size_toArray, ← hl, hlen]
  rcases hs with hs | hs
  · obtain ⟨its, rv, hl, _⟩ := I.list hs
    refine call_all_walk (iter_any hl.isList fun s₂ e2 st hne => ?_)
    subst e2
    exact ⟨_, _, _, _, _, _, _, rfl, Walks.list (A := X.A.in1) (I.ok.hd hc) _ a hne its.toArray, st, truth_vals rv ht, fun h' tk hk => fin _ its rv.length h' tk _ rfl hk⟩
  · obtain ⟨its, rv, hl, _⟩ := I.tuple hs
    refine call_all_walk (iter_tup (show s.heap.IsTuple a its.toArray from hl) fun s₂ e2 st hne => ?_)
    subst e2
    exact ⟨_, _, _, _, _, _, _, rfl, Walks.tuple (A := X.A.in1) (I.ok.hd hc) _ a hne its.toArray, st, truth_vals rv ht, fun h' tk hk => fin _ its rv.length h' tk _ rfl hk⟩
end
end MP

/-! MPH: built-in functions, methods. -/
namespace MP
open PySem PySem.Spec PyProof.Rows L2

def fLen : D → M D
  | .str x => .guard (x.length ≤ sizeLine) (.ret (.int x.length))
  | .tup xs => .ret (.int xs.length)
  | .flst xs => .ret (.int xs.length)
  | .ref r => fun S => match S[r]? with
    | some (.lst xs) => some (.ok (.int xs.length) S)
    | some (.dct kvs) => some (.ok (.int kvs.length) S)
    | _ => none
  | _ => .stuck
def fInt : D → M D
  | .int i => .ret (.int i)
  | .bl b => .ret (.int (if b then 1 else 0))
  | _ => .stuck
def fAbs : D → M D
  | .int i => .ret (.int (if i < 0 then -i else i))
  | _ => .stuck
def fTup : D → M D
  | .tup xs => .ret (.tup xs)
  | .flst xs => .ret (.tup xs)
  | .ref r => .bind (getL r) fun xs => .ret (.tup xs)
  | _ => .stuck
def fLst : D → M D
  | .tup xs => newL xs
  | .flst xs => newL xs
  | .ref r => .bind (getL r) fun xs => newL xs
  | _ => .stuck
def asBl : D → Option Bool
  | .bl b => some b
  | .int i => some (i != 0)
  | .non => some false
  | _ => none
def asBls : List D → Option (List Bool)
  | [] => some []
  | d :: ds => match asBl d, asBls ds with
    | some b, some bs => some (b :: bs)
    | _, _ => none
def asInts : List D → Option (List Int)
  | [] => some []
  | d :: ds => match d, asInts ds with
    | .int i, some is => some (i :: is)
    | _, _ => none
def fAll : D → M D
  | .ref r => .bind (getL r) fun xs => .bind (optM (asBls xs)) fun bs => .ret (.bl (bs.all id))
  | .tup xs => .bind (optM (asBls xs)) fun bs => .ret (.bl (bs.all id))
  | _ => .stuck
def fAny : D → M D
  | .ref r => .bind (getL r) fun xs => .bind (optM (asBls xs)) fun bs => .ret (.bl (bs.any id))
  | .tup xs => .bind (optM (asBls xs)) fun bs => .ret (.bl (bs.any id))
  | _ => .stuck
def fSum : D → M D
  | .ref r => .bind (getL r) fun xs => .bind (optM (asInts xs)) fun bs => .ret (.int bs.sum)
  | _ => .stuck

section
variable {Γ : Pg} {X : Cx} {G : GW} {W : WX} {C : Calls} {a b c e : Expr} {pos : Pos} {fa fb : Ev} {k : Nat}
theorem dlen_ok {pins : List (Addr × Obj)} {s : Shared} {σ : St} {H : Hp} {a : Addr} {kvs : List (Key × V)} {A : Around} {E : Value → Shared → Prop} {Q : VK} (I : Inv X pins σ H s) (e : H a = some (.dK kvs)) (q : Q (.int kvs.length) H) : wpAny (model X.prog X.w) A (call (.builtin "len") [.ref a]) (EP X pins σ Q) E s :=
  d_len I (.inl e) fun t s' I' => ⟨.int kvs.length, H, I', ⟨_, rfl⟩, q⟩
theorem us_len (hK : X.K = G.K) : UnS X G (fun u => call (.builtin "len") [u]) fLen := by
  intro W pins s σ H x v Q m F S d I rx s' hx h
  cases d with
  | str z =>
    obtain ⟨hl, h⟩ := Run.guard (x := M.ret _) h
    cases hx
    exact call_len_str pins s σ H _ _ Q I (.cons rx .nil) ⟨z, rfl, hl, h.ret s' rfl⟩
  | tup xs =>
    obtain ⟨a, vs, rfl, q1, q2⟩ := hx
    have hq := Run.ret (rel := relD G) h s' (b := V.int vs.length) (by rw [q2.length]; rfl)
    exact call_len_seq pins s σ H _ _ Q I (.cons rx .nil) ⟨a, vs, rfl, .inr (by rw [hK]; exact s'.sqT q1), hq⟩
  | flst xs =>
    obtain ⟨a, vs, rfl, q1, q2⟩ := hx
    have hq := Run.ret (rel := relD G) h s' (b := V.int vs.length) (by rw [q2.length]; rfl)
    exact call_len_seq pins s σ H _ _ Q I (.cons rx .nil) ⟨a, vs, rfl, .inl (by rw [hK]; exact s'.sqL q1), hq⟩
  | ref r =>
    obtain ⟨a, rfl, ha⟩ := hx
    obtain ⟨r', q, z⟩ := h
    unfold fLen at q
    simp only at q
    split at q
    · rename_i xs e1
      cases q
      obtain ⟨vs, h1, h2⟩ := s'.cel _ a _ ha e1
      exact call_len_seq pins s σ H _ _ Q I (.cons rx .nil) ⟨a, vs, rfl, .inl (.of h1), z m F H _ .refl s' (by rw [h2.length]; rfl)⟩
    · rename_i kvs e1
      cases q
      obtain ⟨ws, h1, h2, h3⟩ := s'.cel _ a _ ha e1
      obtain rfl : v = Value.ref a := rx
      exact dlen_ok I h1 (z m F H _ .refl s' (by rw [show kvs.length = ws.length by simpa using congrArg List.length h2]; rfl))
    · cases q
  | non => exact (Run.stuck (α := D) (rel := relD G) h).elim
  | bl _ => exact (Run.stuck (α := D) (rel := relD G) h).elim
  | int _ => exact (Run.stuck (α := D) (rel := relD G) h).elim
  | obj _ _ => exact (Run.stuck (α := D) (rel := relD G) h).elim
  | fn _ => exact (Run.stuck (α := D) (rel := relD G) h).elim
  | cls _ => exact (Run.stuck (α := D) (rel := relD G) h).elim
  | ty _ => exact (Run.stuck (α := D) (rel := relD G) h).elim
theorem us_int : UnS X G (fun u => call (.type "int") [u]) fInt := by
  intro W pins s σ H x v Q m F S d I rx s' hx h
  unfold fInt at h
  split at h
  · cases hx
    exact call_int1 pins s σ H _ _ Q I (.cons rx .nil) (.inl ⟨_, rfl, h.ret s' rfl⟩)
  · cases hx
    exact call_int1 pins s σ H _ _ Q I (.cons rx .nil) (.inr ⟨_, rfl, h.ret s' rfl⟩)
  · exact h.stuck.elim
theorem us_abs : UnS X G (fun u => call (.builtin "abs") [u]) fAbs := by
  intro W pins s σ H x v Q m F S d I rx s' hx h
  unfold fAbs at h
  split at h
  · cases hx
    exact call_abs pins s σ H _ _ Q I (.cons rx .nil) ⟨_, rfl, h.ret s' rfl⟩
  · exact h.stuck.elim
theorem us_tup (hK : X.K = G.K) : UnS X G (fun u => call (.type "tuple") [u]) fTup := by
  intro W pins s σ H x v Q m F S d I rx s' hx h
  unfold fTup at h
  split at h
  · obtain ⟨a, vs, rfl, q1, q2⟩ := hx
    exact call_tuple_of pins s σ H _ _ Q I (.cons rx .nil) ⟨a, vs, rfl, .inr ⟨by rw [hK]; exact s'.sqT q1, h.ret s' ⟨a, vs, rfl, q1, q2⟩⟩⟩
  · obtain ⟨a, vs, rfl, q1, q2⟩ := hx
    exact call_tuple_of pins s σ H _ _ Q I (.cons rx .nil) ⟨a, vs, rfl, .inl ⟨by rw [hK]; exact s'.sqL q1, run_tup h s' q2⟩⟩
  · obtain ⟨a, rfl, ha⟩ := hx
    obtain ⟨xs, vs, _, q1, q2, h⟩ := run_getL h s' ha
    exact call_tuple_of pins s σ H _ _ Q I (.cons rx .nil) ⟨a, vs, rfl, .inl ⟨.of q1, run_tup h s' q2⟩⟩
  · exact h.stuck.elim
theorem us_lst (hK : X.K = G.K) : UnS X G (fun u => call (.type "list") [u]) fLst := by
  intro W pins s σ H x v Q m F S d I rx s' hx h
  unfold fLst at h
  split at h
  · obtain ⟨a, vs, rfl, q1, q2⟩ := hx
    exact call_list_of pins s σ H _ _ Q I (.cons rx .nil) ⟨a, vs, rfl, .inr (by rw [hK]; exact s'.sqT q1), run_newL h s' q2⟩
  · obtain ⟨a, vs, rfl, q1, q2⟩ := hx
    exact call_list_of pins s σ H _ _ Q I (.cons rx .nil) ⟨a, vs, rfl, .inl (by rw [hK]; exact s'.sqL q1), run_newL h s' q2⟩
  · obtain ⟨a, rfl, ha⟩ := hx
    obtain ⟨xs, vs, _, q1, q2, h⟩ := run_getL h s' ha
    exact call_list_of pins s σ H _ _ Q I (.cons rx .nil) ⟨a, vs, rfl, .inl (.of q1), run_newL h s' q2⟩
  · exact h.stuck.elim
theorem asBls_rel {m : List Addr} {F : Hp} : ∀ {ds : List D} {bs : List Bool} {vs : List V}, asBls ds = some bs → relDs G m F ds vs → TrVs vs bs
  | [], _, _, h, r => by cases h; rw [show _ = [] from r]; rfl
  | d :: ds, _, _, h, ⟨v, r, rfl, r1, r2⟩ => by
    unfold asBls at h
    split at h
    · rename_i b bs h1 h2
      cases h
      have ih := asBls_rel h2 r2
      have e : trV v = some b := by
        cases d with
        | bl _ => cases r1; exact h1
        | int _ => cases r1; exact h1
        | non => cases r1; exact h1
        | _ => cases h1
      unfold TrVs at ih ⊢
      rw [List.map_cons, List.map_cons, ih, e]
    · cases h
theorem asInts_rel {m : List Addr} {F : Hp} : ∀ {ds : List D} {bs : List Int} {vs : List V}, asInts ds = some bs → relDs G m F ds vs → vs = bs.map V.int
  | [], _, _, h, r => by cases h; exact r
  | d :: ds, _, _, h, ⟨v, r, rfl, r1, r2⟩ => by
    unfold asInts at h
    split at h
    · rename_i i bs h2
      cases h
      cases r1; rw [asInts_rel h2 r2]; rfl
    · cases h
theorem run_optB {α γ δ : Type} {W : WX} {σ : St} {m : List Addr} {F : Hp} {S : Store} {rel : List Addr → Hp → γ → δ → Prop} {o : Option α} {f : α → M γ} {Q : δ → Hp → Prop} (h : Run G W σ rel (M.bind (optM o) f) m F S Q) : ∃ a, o = some a ∧ Run G W σ rel (f a) m F S Q := by
  cases o with
  | none => obtain ⟨_, q, _⟩ := h; cases q
  | some a => exact ⟨a, rfl, h⟩
theorem us_all (hK : X.K = G.K) (hc : X.calm = true) : UnS X G (fun u => call (.builtin "all") [u]) fAll := by
  intro W pins s σ H x v Q m F S d I rx s' hx h
  unfold fAll at h
  split at h
  · obtain ⟨a, rfl, ha⟩ := hx
    obtain ⟨xs, vs, _, q1, q2, h⟩ := run_getL h s' ha
    obtain ⟨bs, hb, h⟩ := run_optB h
    exact cr_all2 hc pins s σ H _ _ Q I (.cons rx .nil) ⟨a, vs, bs, rfl, .inl (.of q1), asBls_rel hb q2, h.ret s' rfl⟩
  · obtain ⟨a, vs, rfl, q1, q2⟩ := hx
    obtain ⟨bs, hb, h⟩ := run_optB h
    exact cr_all2 hc pins s σ H _ _ Q I (.cons rx .nil) ⟨a, vs, bs, rfl, .inr (by rw [hK]; exact s'.sqT q1), asBls_rel hb q2, h.ret s' rfl⟩
  · exact h.stuck.elim
theorem us_any (hK : X.K = G.K) (hc : X.calm = true) : UnS X G (fun u => call (.builtin "any") [u]) fAny := by
  intro W pins s σ H x v Q m F S d I rx s' hx h
  unfold fAny at h
  split at h
  · obtain ⟨a, rfl, ha⟩ := hx
    obtain ⟨xs, vs, _, q1, q2, h⟩ := run_getL h s' ha
    obtain ⟨bs, hb, h⟩ := run_optB h
    exact cr_any2 hc pins s σ H _ _ Q I (.cons rx .nil) ⟨a, vs, bs, rfl, .inl (.of q1), asBls_rel hb q2, h.ret s' rfl⟩
  · obtain ⟨a, vs, rfl, q1, q2⟩ := hx
    obtain ⟨bs, hb, h⟩ := run_optB h
    exact cr_any2 hc pins s σ H _ _ Q I (.cons rx .nil) ⟨a, vs, bs, rfl, .inr (by rw [hK]; exact s'.sqT q1), asBls_rel hb q2, h.ret s' rfl⟩
  · exact h.stuck.elim
theorem us_sum (hc : X.calm = true) : UnS X G (fun u => call (.builtin "sum") [u]) fSum := by
  intro W pins s σ H x v Q m F S d I rx s' hx h
  unfold fSum at h
  split at h
  · obtain ⟨a, rfl, ha⟩ := hx
    obtain ⟨xs, vs, _, q1, q2, h⟩ := run_getL h s' ha
    obtain ⟨bs, hb, h⟩ := run_optB h
    obtain rfl := asInts_rel hb q2
    exact cr_sum hc pins s σ H _ _ Q I (.cons rx .nil) ⟨a, bs, rfl, .of q1, h.ret s' rfl⟩
  · exact h.stuck.elim

/-! ### calls of built-ins by name -/
/-- no starred argument -/
def noStar : Expr → Bool
  | .Starred _ _ => false
  | _ => true
theorem starEach_one {env : Env} {es : List Expr} (h : noStar e = true) : starEach (e :: es) env = (false, eval e env) :: starEach es env := by
  cases e <;> first
    | rfl
    | cases h
theorem noStar_any {env : Env} : ∀ {es : List Expr}, es.all noStar = true → (backTo pos (starEach es env)).any (·.1) = false
  | [], _ => rfl
  | e :: es, h => by
    rw [List.all_cons, Bool.and_eq_true] at h
    rw [starEach_one h.1]
    show (false || (backTo pos (starEach es env)).any (·.1)) = false
    rw [noStar_any h.2]; rfl
theorem noStar_all {env : Env} : ∀ {es : List Expr}, es.all noStar = true → (backTo pos (starEach es env)).all (fun x => !x.1) = true
  | [], _ => rfl
  | e :: es, h => by
    rw [List.all_cons, Bool.and_eq_true] at h
    rw [starEach_one h.1]
    show (true && (backTo pos (starEach es env)).all (fun x => !x.1)) = true
    rw [noStar_all h.2]; rfl
theorem sa_one (ha : SE X G W a fa) (h : noStar a = true) : SA X G W [a] (aCons fa aNil) := sa_cons ha sa_nil (starEach_one h)

theorem se_bi1 (g : GY Γ X G W C k) {x : Str} {p : Pos} {id : String} {f : D → M D} (hx : Γ.gl.lookup x = some .free) (hg : Gl X x) (hv : bootBuiltins x = some (.builtin id)) (hn : x ≠ "__name__") (hdb : (x == ("__debug__" : Str)) = false)
    (us : UnS X G (fun u => call (.builtin id) [u]) f) (ha : SE X G W a fa) (hs : noStar a = true) : SE X G W (.Call (.Name x p) [a] [] pos) (eUn f fa) := by
  refine ⟨fun pins s σ H Q I h => ?_⟩
  refine wpAny_Call_Name_kw (ld_blt I hg (g.wf.free x hx) hv ?_ hn hdb)
  refine PyProof.Rows.callWith_builtin1 ?_ (starEach_one hs) rfl
  rw [starEach_one hs]
  refine Calls.spliced_cons (thn (ha.run pins s σ H _ I (tM.bind h)) fun u s1 ⟨x, H1, I1, r1, m, F, ρ, S, d, s', _, hx, r⟩ => Calls.spliced_nil ?_)
  exact us W pins s1 σ H1 x u Q m F S d I1 r1 s' hx r
theorem se_ty1 (g : GY Γ X G W C k) {x : Str} {p : Pos} {id : String} {f : D → M D} (hx : Γ.gl.lookup x = some .free) (hg : Gl X x) (hv : bootBuiltins x = some (.type id)) (hn : x ≠ "__name__") (hdb : (x == ("__debug__" : Str)) = false)
    (us : UnS X G (fun u => call (.type id) [u]) f) (ha : SE X G W a fa) (hs : noStar a = true) : SE X G W (.Call (.Name x p) [a] [] pos) (eUn f fa) := by
  refine ⟨fun pins s σ H Q I h => ?_⟩
  refine wpAny_Call_Name_kw (ld_blt I hg (g.wf.free x hx) hv ?_ hn hdb)
  refine PyProof.Rows.callWith_type1 ?_ (starEach_one hs) rfl
  rw [starEach_one hs]
  refine Calls.spliced_cons (thn (ha.run pins s σ H _ I (tM.bind h)) fun u s1 ⟨x, H1, I1, r1, m, F, ρ, S, d, s', _, hx, r⟩ => Calls.spliced_nil ?_)
  exact us W pins s1 σ H1 x u Q m F S d I1 r1 s' hx r
theorem se_bi2 (g : GY Γ X G W C k) {x : Str} {p : Pos} {id : String} {f : D → D → M D} (hx : Γ.gl.lookup x = some .free) (hg : Gl X x) (hv : bootBuiltins x = some (.builtin id)) (hn : x ≠ "__name__") (hdb : (x == ("__debug__" : Str)) = false)
    (us : OpS X G (fun u v => call (.builtin id) [u, v]) f) (ha : SE X G W a fa) (hb : SE X G W b fb) (hs : noStar a = true) (hs' : noStar b = true) : SE X G W (.Call (.Name x p) [a, b] [] pos) (eOp f fa fb) := by
  refine ⟨fun pins s σ H Q I h => ?_⟩
  refine wpAny_Call_Name_kw (ld_blt I hg (g.wf.free x hx) hv ?_ hn hdb)
  refine PyProof.Rows.callWith_builtin1 ?_ (starEach_one hs) (noStar_any (by simp [hs']))
  rw [starEach_one hs, starEach_one hs']
  refine Calls.spliced_cons (thn (ha.run pins s σ H _ I (bin2 h)) fun u s1 ⟨x, H1, I1, r1, q1⟩ => ?_)
  refine Calls.spliced_cons (wpAny_mono (hb.run pins s1 σ H1 _ I1 q1) (fun v s2 ⟨y, H2, I2, r2, m, F, S, dx, dy, s', hx, hy, r⟩ => Calls.spliced_nil ?_) fun _ _ x => x)
  exact us W pins s2 σ H2 x y u v Q m F S dx dy I2 r1 r2 s' hx hy r
theorem os_isi (g : GY Γ X G W C k) : OpS X G (fun u v => call (.builtin "isinstance") [u, v]) (fIsi Γ) := by
  intro W' pins s σ H x y v u Q m F S d e I rx ry s' hx hy h
  obtain ⟨r, q, h⟩ := h
  -- no exception: the wish of exceptions does not matter
  refine isi_ok (W := W) g I rx ry s' hx hy ⟨r, q, ?_⟩
  cases r with
  | ok _ _ => exact h
  | ex e S' =>
    unfold fIsi at q
    split at q
    · split at q <;> cases q
    · cases q
end
end MP

/-! MPEnum: enumerate over a tuple. -/
namespace MPE
open PySem PySem.Spec PyProof.Rows L2 RZ
open Sem (wp)
open AutoSeq1 (wpAny_loadPart')
theorem meets_enumerate_newT (l : Addr) (items : Array Value) (n : Nat) (dct : Option Addr) (sl : Array (Option Value)) :
    Meets (Builtin.«enumerate.__new__» ⟨[.type "enumerate", .ref l], []⟩) (fun _ R s => s.heap.get? l = some { cls := .type "tuple", dict := dct, data := .seq items n, slots := sl } ∧
      R (.ok (.ret (.ref (s.heap.push { cls := .type "tuple_iterator", data := .fields #[.ref l, .int 0 0] }).objs.size)))
        { s with heap := (s.heap.push { cls := .type "tuple_iterator", data := .fields #[.ref l, .int 0 0] }).push { cls := .type "enumerate", data := .fields #[.none, .bool false, .ref s.heap.objs.size, rawInt 0, .none, .none] } }) :=
  .of_wp fun prog w A R s h => by
    obtain ⟨hp, g, d, tk, os⟩ := s; obtain ⟨hl, h⟩ := h
    have hsub := sub_enumerate
    have hL : Heap.IsTuple (Shared.heap ⟨hp, g, d, tk, os⟩) l items := ⟨_, hl, rfl, n, rfl⟩
    wp_walk using wpAny_loadPart' hl
    refine wpAny_stack_any fun st => wpAny_pure ?_
    split
    · rename_i c _ _ _ _ _
      cases (c == Value.type "enumerate")
      · wp_walk using wpAny_loadPart' hl, wpAny_pyIter_tuple hL
        exact ⟨_, rfl, h⟩
      · wp_walk using wpAny_loadPart' hl, wpAny_pyIter_tuple hL
        exact ⟨_, rfl, h⟩
    · wp_walk using wpAny_loadPart' hl, wpAny_pyIter_tuple hL
      exact ⟨_, rfl, h⟩
section
variable {prog : Program} {w : World} {A : Around} {E : Value → Shared → Prop} {s : Shared}
theorem call_enumerate_tuple {l : Addr} {items : Array Value} {Q : Value → Shared → Prop} (hL : s.heap.IsTuple l items)
    (h : ∀ h', IsEnum h' (s.heap.objs.size + 1) s.heap.objs.size 0 .none → h'.IsTupleIter s.heap.objs.size l 0 → h'.objs.size = s.heap.objs.size + 2 →
      (∀ b o, s.heap.get? b = some o → h'.get? b = some o) → Q (.ref (s.heap.objs.size + 1)) { s with heap := h' }) :
    wpAny (model prog w) A (call (.type "enumerate") [.ref l]) Q E s := by
  obtain ⟨⟨c, dct, dt, sl⟩, hl, hc, n, hd⟩ := hL
  replace hc : c = .type "tuple" := hc
  replace hd : dt = .seq items n := hd
  subst hc hd
  refine callType_new F.called_enumerate (by decide) (F.typeCall_enumerate_1 _) (F.newCall_enumerate_1 _) (fun obj => F.args_object_init_2 obj _) F.entry_enumerate_new
    (meets_enumerate_newT l items n dct sl) ⟨hl, ?_⟩
  have hz : (s.heap.push { cls := .type "tuple_iterator", data := .fields #[.ref l, .int 0 0] }).objs.size = s.heap.objs.size + 1 := Heap.size_push ..
  show _ ∧ _
  rw [hz]
  have he : IsEnum ((s.heap.push { cls := .type "tuple_iterator", data := .fields #[.ref l, .int 0 0] }).push
      { cls := .type "enumerate", data := .fields #[.none, .bool false, .ref s.heap.objs.size, rawInt 0, .none, .none] }) (s.heap.objs.size + 1) s.heap.objs.size 0 .none := by
    have := Heap.get?_push_size (s.heap.push { cls := .type "tuple_iterator", data := .fields #[.ref l, .int 0 0] })
      (o := { cls := .type "enumerate", data := .fields #[.none, .bool false, .ref s.heap.objs.size, rawInt 0, .none, .none] }) rfl
    rw [hz] at this; exact this
  refine ⟨⟨_, he, rfl⟩, h _ he ⟨_, Heap.get?_push_of_some _ (Heap.get?_push_size _ rfl), rfl, rfl⟩ (by rw [Heap.size_push, hz]) fun b o x => Heap.get?_push_of_some _ (Heap.get?_push_of_some _ x)⟩
end
theorem drawsTuple {prog : Program} {w : World} {A : Around} (hh : A.handled = none) (it l : Addr) (hne : l ≠ it) (items : Array Value) :
    Draws prog w A it [it, l] items.size (fun i v => items[i]? = some v) (fun i h => h.IsTupleIter it l i ∧ h.IsTuple l items) where
  live := fun _ _ st => let ⟨o, ho, _⟩ := st.1; ⟨o, ho⟩
  frame := fun _ _ _ st hk => ⟨st.1.at fun o e => hk it (by simp) o e, let ⟨o, ho, r⟩ := st.2; ⟨o, hk l (by simp) o ho, r⟩⟩
  item := fun i s Q E hi st hQ => by
    refine nextOf_tuple_item st.1 st.2 (x := items[i]) (by simp [hi]) fun h' hit' hs' => ?_
    exact hQ _ h' s.toks (by simp [hi]) ⟨hit', st.2.extBut hs'.extBut hne⟩ hs'
  done := fun s Q E st hE => nextOf_tuple_end hh st.1 st.2 (by simp) hE
/-- the tuple at a, each item in a new pair with its place -/
def IteT (K : PySem.W.Frag) (a : Addr) (xs : List V) : It :=
  ⟨fun i H => ∃ (x : V), SqT K H a xs ∧ xs[i]? = some x, fun i H v H' => ∃ T x, v = .ref T ∧ H T = none ∧ H' = upd H T (.tup [.int (i : Nat), x]) ∧ xs[i]? = some x, fun i H => SqT K H a xs ∧ xs.length ≤ i⟩
theorem turn_enumT {P : Program} {w : World} {K : PySem.W.Frag} {elts : List Expr} {kk : Nat} {tpos : Pos} (a e it : Addr) (xs : List V) :
    Turn P w K (.Tuple elts kk tpos) (IteT K a xs) [e, it] e (fun i h => (∃ old, IsEnum h e it ((i : Nat) : Int) old) ∧ h.IsTupleIter it a i ∧ e ≠ it ∧ a ≠ it ∧ a ≠ e ∧ i ≤ xs.length) where
  mem := by simp
  obj := fun i h st b hb => by
    obtain ⟨⟨old, he⟩, ⟨o, ho, hc, hd⟩, _⟩ := st
    have e' : b = e ∨ b = it := by simpa using hb
    rcases e' with z | z
    · rw [z]; exact ⟨_, he, fun v q => nomatch q⟩
    · rw [z]; exact ⟨o, ho, fun v q => by rw [hd] at q; cases q⟩
  keep := fun i h h' st k => let ⟨⟨old, he⟩, hi, hne⟩ := st; ⟨⟨old, k e (by simp) _ he⟩, hi.at fun o q => k it (by simp) o q, hne⟩
  item := by
    intro X hP hw hK hc i pins s σ H E I hf st hg
    subst hP hw hK
    obtain ⟨⟨old, he⟩, hit, hne, ha1, ha2, hle⟩ := st
    obtain ⟨x, hq, hx⟩ := hg
    obtain ⟨its, rv, p, hz⟩ := I.tuple hq
    obtain ⟨u, hu, ru⟩ := rv.get hx
    have hel : e < s.heap.objs.size := Heap.lt_size he
    have hil : it < s.heap.objs.size := by obtain ⟨_, q, _⟩ := hit; exact Heap.lt_size q
    have hT : s.heap.IsTuple a its.toArray := p
    have hiz : i < its.toArray.size := by
      have := (List.getElem?_eq_some_iff.mp hu).1
      simpa using this
    refine wpAny_pyNext_enum_itemD (drawsTuple (A := X.A.in1) (I.ok.hd hc) it a ha1 its.toArray) he ⟨hit, hT⟩ hiz hne (by simp [hne, Ne.symm ha2]) fun x2 h' tk hP ho hst hT2 hsz hk => ?_
    obtain ⟨hit', hT'⟩ := hst
    have ex : x2 = u := by
      have h1 : its.toArray[i]? = some u := by simpa using hu
      rw [h1] at hP; exact (Option.some.inj hP).symm
    subst ex
    refine ⟨_, rfl, wpAny_letOwnedTupleGo_enum (s := { s with heap := h', toks := tk + 1 }) ho fun h'' he' sb => ?_⟩
    have hT3 : h''.get? s.heap.objs.size = some { cls := .type "tuple", data := .seq #[.int i tk, x2] } := (sb.2 _ (Nat.ne_of_gt hel)).trans hT2
    have new : ObjOk X.prog X.w (upd H s.heap.objs.size (.tup [.int (i : Nat), x])) h'' s.heap.objs.size (.tup [.int (i : Nat), x]) :=
      ⟨by show 2 ≤ sizeLine; decide, [.int i tk, x2], .cons ⟨_, rfl⟩ (.cons ru .nil), ⟨_, hT3, rfl, _, rfl⟩⟩
    have I1 : Inv X pins σ (upd H s.heap.objs.size (.tup [.int (i : Nat), x])) { s with heap := h'', toks := tk + 1 } :=
      I.turnedNew (ch := [e, it]) (fun b ob hb q => (sb.2 b (fun z => hb (by simp [z]))).trans (hk b ob (fun z => hb (by simp [z])) (fun z => hb (by simp [z])) q)) hf (Nat.le_refl _) new
    refine ⟨.ref s.heap.objs.size, _, I1, rfl, ⟨_, x, rfl, I.hok.fresh (Nat.le_refl _), rfl, hx⟩, ⟨⟨x2, ?_⟩, hit'.at fun o q => (sb.2 it (Ne.symm hne)).trans q, hne, ha1, ha2, (List.getElem?_eq_some_iff.mp hx).1⟩, fun b hb => ?_⟩
    · have e1 : ((i + 1 : Nat) : Int) = (i : Int) + 1 := by omega
      rw [e1]; exact he'
    · have hb' : b < s.heap.objs.size := by
        have e' : b = e ∨ b = it := by simpa using hb
        rcases e' with z | z
        · rw [z]; exact hel
        · rw [z]; exact hil
      rw [upd_ne (Nat.ne_of_lt hb')]
      exact (hf b hb).1
  done := by
    intro X hP hw hK hc i pins s σ H E I hf st hg
    subst hP hw hK
    obtain ⟨⟨old, he⟩, hit, hne, ha1, ha2, hle⟩ := st
    obtain ⟨hq, hx⟩ := hg
    obtain ⟨its, rv, p, hz⟩ := I.tuple hq
    obtain ⟨f0, f1, f2, f3, f4, f5⟩ := hf it (by simp)
    have hl := rv.length
    have hT : s.heap.IsTuple a its.toArray := p
    have hi : i = its.toArray.size := by simp; omega
    subst hi
    exact wpAny_pyNext_enum_endD (drawsTuple (A := X.A.in1) (I.ok.hd hc) it a ha1 its.toArray) he ⟨hit, hT⟩ fun h' eb => ⟨rfl, I.turned (t' := s.toks) (fun b o hb q => eb b o hb q) f0 f1 f3 f4 f5⟩
  self := fun A i s Q E st h => let ⟨⟨_, he⟩, _⟩ := st; wpAny_pyIter_enum he h
end MPE

/-! MPZip: zip of any two of lists and tuples (the two need not be of one kind). -/
namespace MPZ
open PySem PySem.Spec PyProof.Rows L2
open PySem.Sem (wp)
/-- a kind of sequence: how it lies in the heap, its iterator, what the iterator does -/
structure Sk where
  Is : Heap → Addr → Array Value → Prop
  It : Heap → Addr → Addr → Nat → Prop
  nm : String
  isE : ∀ {h h' : Heap} {a b : Addr} {xs : Array Value}, Is h a xs → Heap.ExtBut b h h' → a ≠ b → Is h' a xs
  itE : ∀ {h h' : Heap} {a l : Addr} {i : Nat}, It h a l i → (∀ o, h.get? a = some o → h'.get? a = some o) → It h' a l i
  obj : ∀ {h : Heap} {a l : Addr} {i : Nat}, It h a l i → ∃ o, h.get? a = some o ∧ ∀ v, o.data ≠ .cell v
  item : ∀ {prog : Program} {w : World} {A : Around} {E : Value → Shared → Prop} {s : Shared} {it l : Addr} {i : Nat} {xs : Array Value} {x : Value} {Q : Value → Shared → Prop}, It s.heap it l i → Is s.heap l xs → xs[i]? = some x →
    (∀ h', It h' it l (i + 1) → Heap.SameBut it s.heap h' → Q x { s with heap := h' }) → wpAny (model prog w) A (Builtin.SmallTypes.nextOf (.ref it)) Q E s
  last : ∀ {prog : Program} {w : World} {A : Around} {E : Value → Shared → Prop} {s : Shared} {it l : Addr} {i : Nat} {xs : Array Value} {Q : Value → Shared → Prop}, A.handled = none → It s.heap it l i → Is s.heap l xs → xs[i]? = none →
    (∀ h' e, Heap.ExtBut it s.heap h' → (∃ o, h'.get? e = some o ∧ o.cls = .type "StopIteration") → E (.ref e) { s with heap := h' }) → wpAny (model prog w) A (Builtin.SmallTypes.nextOf (.ref it)) Q E s
def skL : Sk where
  Is := Heap.IsList
  It := Heap.IsListIter
  nm := "list_iterator"
  isE := fun h e n => h.extBut e n
  itE := fun h e => h.at e
  obj := fun ⟨o, e, _, d⟩ => ⟨o, e, fun v q => by rw [d] at q; cases q⟩
  item := fun h1 h2 h3 h4 => wpAny_nextOf_list_item h1 h2 h3 h4
  last := fun h0 h1 h2 h3 h4 => wpAny_nextOf_list_end h0 h1 h2 h3 h4
def skT : Sk where
  Is := Heap.IsTuple
  It := Heap.IsTupleIter
  nm := "tuple_iterator"
  isE := fun h e n => h.extBut e n
  itE := fun h e => h.at e
  obj := fun ⟨o, e, _, d⟩ => ⟨o, e, fun v q => by rw [d] at q; cases q⟩
  item := fun h1 h2 h3 h4 => RZ.nextOf_tuple_item h1 h2 h3 h4
  last := fun h0 h1 h2 h3 h4 => RZ.nextOf_tuple_end h0 h1 h2 h3 h4
/-- a zip object that is ready -/
structure Zp (α β : Sk) (h : Heap) (z TI TO i1 i2 a b : Addr) (k : Nat) : Prop where
  zip : IsZip h z TI TO .none
  ti : IsPair h TI (.ref i1) (.ref i2)
  to : ∃ x y, IsPair h TO x y
  one : α.It h i1 a k
  two : β.It h i2 b k
section
variable {α β : Sk} {prog : Program} {w : World} {A : Around} {E : Value → Shared → Prop} {s : Shared} {z TI TO i1 i2 l1 l2 : Addr} {k : Nat} {xs ys : Array Value} {x y : Value}
theorem next_item {Q : Value → Shared → Prop} (D : ZipApart z TI TO i1 i2 l1 l2) (Z : Zp α β s.heap z TI TO i1 i2 l1 l2 k) (hl1 : α.Is s.heap l1 xs) (hl2 : β.Is s.heap l2 ys) (hx : xs[k]? = some x) (hy : ys[k]? = some y)
    (hQ : ∀ h', IsZip h' z TI TO (rawInt s.heap.objs.size) → IsPair h' TO x y → α.It h' i1 l1 (k + 1) → β.It h' i2 l2 (k + 1) → IsPair h' s.heap.objs.size x y → h'.objs.size = s.heap.objs.size + 1 →
      (∀ c o, c ≠ z → c ≠ TO → c ≠ i1 → c ≠ i2 → s.heap.get? c = some o → h'.get? c = some o) → Q (.ref s.heap.objs.size) { s with heap := h' }) :
    wpAny (model prog w) A (Builtin.«zip.__next__» ⟨[.ref z], []⟩) (fun fin s' => ∃ v, fin = .done (.ret v) ∧ Q v s') E s := by
  obtain ⟨hz, hTI, ⟨a, b, hTO⟩, h1, h2⟩ := Z
  show wpAny _ _ (field (.ref z) 2 >>= _) _ _ _
  refine wpAny_bind (wpAny_field hz rfl (x := .bool false) rfl ?_)
  show wpAny _ _ (field (.ref z) 3 >>= _) _ _ _
  refine wpAny_bind (wpAny_field hz rfl (x := .ref TI) rfl (wpAny_bind (wpAny_seqItems hTI rfl ?_)))
  show wpAny _ _ (Builtin.SmallTypes.ownedTupleIsFree (.ref z) >>= _) _ _ _
  refine wpAny_bind ?_
  unfold Builtin.SmallTypes.ownedTupleIsFree
  refine wpAny_bind (wpAny_field hz rfl (x := .none) rfl (wpAny_pure ?_))
  simp only [if_true]
  refine wpAny_bind (wpAny_rule (wpAny_bind (wpAny_field hz rfl (x := .ref TO) rfl ?_)))
  refine wpAny_bind (wpAny_setField_rec hz (by simp) fun h₁ hz₁ hs₁ => ?_)
  replace hz₁ : IsZip h₁ z TI TO .ellipsis := hz₁
  refine wpAny_bind ?_
  simp only [List.zipIdx_cons, List.zipIdx_nil, List.forIn_cons, List.forIn_nil]
  refine wpAny_bind (wpAny_bind (wpAny_onRaise ?_))
  show wpAny _ _ (Builtin.SmallTypes.nextOf (.ref i1) >>= _) _ _ _
  refine wpAny_bind (α.item (α.itE h1 fun o e => hs₁.extBut _ _ D.i1z e) (α.isE hl1 hs₁.extBut D.l1z) hx fun h₂ h1₂ hs₂ => wpAny_pure ?_)
  have hTO₂ : IsPair h₂ TO a b := hs₂.extBut _ _ D.TOi1 (hs₁.extBut _ _ D.TOz hTO)
  refine wpAny_bind (wpAny_seqItems hTO₂ rfl (wpAny_bind (wpAny_updateSeq_pair hTO₂ fun h₃ hTO₃ hs₃ => ?_)))
  replace hTO₃ : IsPair h₃ TO x b := hTO₃
  refine wpAny_bind (wpAny_letGo (wpAny_pure ?_))
  refine wpAny_bind (wpAny_bind (wpAny_onRaise ?_))
  show wpAny _ _ (Builtin.SmallTypes.nextOf (.ref i2) >>= _) _ _ _
  refine wpAny_bind (β.item (β.itE h2 fun o e => hs₃.extBut _ _ D.TOi2.symm (hs₂.extBut _ _ D.i12.symm (hs₁.extBut _ _ D.i2z e))) (β.isE (β.isE (β.isE hl2 hs₁.extBut D.l2z) hs₂.extBut D.l2i1) hs₃.extBut D.l2TO) hy fun h₄ h2₄ hs₄ => wpAny_pure ?_)
  have hTO₄ : IsPair h₄ TO x b := hs₄.extBut _ _ D.TOi2 hTO₃
  refine wpAny_bind (wpAny_seqItems hTO₄ rfl (wpAny_bind (wpAny_updateSeq_pair hTO₄ fun h₅ hTO₅ hs₅ => ?_)))
  replace hTO₅ : IsPair h₅ TO x y := hTO₅
  refine wpAny_bind (wpAny_letGo (wpAny_pure (wpAny_pure ?_)))
  refine wpAny_bind (wpAny_seqItems hTO₅ rfl (wpAny_bind (wpAny_newTuple ?_)))
  have hsz : h₅.objs.size = s.heap.objs.size := by rw [hs₅.1, hs₄.1, hs₃.1, hs₂.1, hs₁.1]
  have hz₅ : IsZip h₅ z TI TO .ellipsis := hs₅.extBut _ _ D.TOz.symm (hs₄.extBut _ _ D.i2z.symm (hs₃.extBut _ _ D.TOz.symm (hs₂.extBut _ _ D.i1z.symm hz₁)))
  have hk₅ : ∀ c o, c ≠ z → c ≠ TO → c ≠ i1 → c ≠ i2 → s.heap.get? c = some o → h₅.get? c = some o := fun c o c1 c2 c3 c4 e =>
    hs₅.extBut _ _ c2 (hs₄.extBut _ _ c4 (hs₃.extBut _ _ c2 (hs₂.extBut _ _ c3 (hs₁.extBut _ _ c1 e))))
  have h1₅ : α.It h₅ i1 l1 (k + 1) := α.itE h1₂ fun o e => hs₅.extBut _ _ D.TOi1.symm (hs₄.extBut _ _ D.i12 (hs₃.extBut _ _ D.TOi1.symm e))
  have h2₅ : β.It h₅ i2 l2 (k + 1) := β.itE h2₄ fun o e => hs₅.extBut _ _ D.TOi2.symm e
  have hzlt : z < h₅.objs.size := Heap.lt_size hz₅
  show wpAny _ _ (Builtin.SmallTypes.ownedTupleHandOut (.ref z) (.ref h₅.objs.size) >>= _) _ _ _
  refine wpAny_bind ?_
  unfold Builtin.SmallTypes.ownedTupleHandOut
  have hz₆ : IsZip (h₅.push { cls := .type "tuple", data := .seq #[x, y] }) z TI TO .ellipsis := Heap.get?_push_of_some _ hz₅
  refine wpAny_bind (wpAny_setField_rec hz₆ (by simp) fun h₇ hz₇ hs₇ => ?_)
  replace hz₇ : IsZip h₇ z TI TO (rawInt h₅.objs.size) := hz₇
  refine wpAny_setField_rec hz₇ (by simp) fun h₈ hz₈ hs₈ => ?_
  replace hz₈ : IsZip h₈ z TI TO (rawInt h₅.objs.size) := hz₈
  have up : ∀ c o, c ≠ z → h₅.get? c = some o → h₈.get? c = some o := fun c o c1 e => hs₈.extBut _ _ c1 (hs₇.extBut _ _ c1 (Heap.get?_push_of_some _ e))
  have hT₈ : IsPair h₈ h₅.objs.size x y := hs₈.extBut _ _ (Nat.ne_of_gt hzlt) (hs₇.extBut _ _ (Nat.ne_of_gt hzlt) (Heap.get?_push_size _ rfl))
  have hz8 : h₈.objs.size = h₅.objs.size + 1 := by rw [hs₈.1, hs₇.1, Heap.size_push]
  rw [hsz] at hz₈ hT₈ hz8
  refine wpAny_pure ⟨_, rfl, ?_⟩
  show Q (.ref h₅.objs.size) _
  rw [hsz]
  exact hQ h₈ hz₈ (up _ _ D.TOz hTO₅) (α.itE h1₅ fun o e => up _ o D.i1z e) (β.itE h2₅ fun o e => up _ o D.i2z e) hT₈ hz8 fun c o c1 c2 c3 c4 e => up c o c1 (hk₅ c o c1 c2 c3 c4 e)
theorem next_end {Q : Fin → Shared → Prop} (hh : A.handled = none) (D : ZipApart z TI TO i1 i2 l1 l2) (Z : Zp α β s.heap z TI TO i1 i2 l1 l2 k) (hl1 : α.Is s.heap l1 xs) (hl2 : β.Is s.heap l2 ys) (hend : xs[k]? = none ∨ ys[k]? = none)
    (hE : ∀ h' e, (∀ c o, c ≠ z → c ≠ TO → c ≠ i1 → c ≠ i2 → s.heap.get? c = some o → h'.get? c = some o) → (∃ o, h'.get? e = some o ∧ o.cls = .type "StopIteration") → E (.ref e) { s with heap := h' }) :
    wpAny (model prog w) A (Builtin.«zip.__next__» ⟨[.ref z], []⟩) Q E s := by
  obtain ⟨hz, hTI, ⟨a, b, hTO⟩, h1, h2⟩ := Z
  show wpAny _ _ (field (.ref z) 2 >>= _) _ _ _
  refine wpAny_bind (wpAny_field hz rfl (x := .bool false) rfl ?_)
  show wpAny _ _ (field (.ref z) 3 >>= _) _ _ _
  refine wpAny_bind (wpAny_field hz rfl (x := .ref TI) rfl (wpAny_bind (wpAny_seqItems hTI rfl ?_)))
  show wpAny _ _ (Builtin.SmallTypes.ownedTupleIsFree (.ref z) >>= _) _ _ _
  refine wpAny_bind ?_
  unfold Builtin.SmallTypes.ownedTupleIsFree
  refine wpAny_bind (wpAny_field hz rfl (x := .none) rfl (wpAny_pure ?_))
  simp only [if_true]
  refine wpAny_bind (wpAny_rule (wpAny_bind (wpAny_field hz rfl (x := .ref TO) rfl ?_)))
  refine wpAny_bind (wpAny_setField_rec hz (by simp) fun h₁ hz₁ hs₁ => ?_)
  replace hz₁ : IsZip h₁ z TI TO .ellipsis := hz₁
  refine wpAny_bind ?_
  simp only [List.zipIdx_cons, List.zipIdx_nil, List.forIn_cons, List.forIn_nil]
  refine wpAny_bind (wpAny_bind (wpAny_onRaise ?_))
  show wpAny _ _ (Builtin.SmallTypes.nextOf (.ref i1) >>= _) _ _ _
  have g1 : α.It h₁ i1 l1 k := α.itE h1 fun o e => hs₁.extBut _ _ D.i1z e
  cases hx : xs[k]? with
  | none =>
    refine wpAny_bind (α.last hh g1 (α.isE hl1 hs₁.extBut D.l1z) hx fun h₂ e hs₂ he => ?_)
    obtain ⟨oe, hoe, hce⟩ := he
    have hz₂ : IsZip h₂ z TI TO .ellipsis := hs₂ _ _ D.i1z.symm hz₁
    have hez : e ≠ z := fun x => by subst x; rw [hz₂] at hoe; cases hoe; simp at hce
    refine wpAny_setField_rec hz₂ (by simp) fun h₃ _ hs₃ => hE h₃ e (fun c o c1 _ c3 _ x => hs₃.extBut _ _ c1 (hs₂ _ _ c3 (hs₁.extBut _ _ c1 x))) ⟨oe, hs₃.extBut _ _ hez hoe, hce⟩
  | some x =>
    have hy : ys[k]? = none := hend.elim (fun h => by rw [hx] at h; cases h) id
    refine wpAny_bind (α.item g1 (α.isE hl1 hs₁.extBut D.l1z) hx fun h₂ h1₂ hs₂ => wpAny_pure ?_)
    have hTO₂ : IsPair h₂ TO a b := hs₂.extBut _ _ D.TOi1 (hs₁.extBut _ _ D.TOz hTO)
    refine wpAny_bind (wpAny_seqItems hTO₂ rfl (wpAny_bind (wpAny_updateSeq_pair hTO₂ fun h₃ hTO₃ hs₃ => ?_)))
    refine wpAny_bind (wpAny_letGo (wpAny_pure ?_))
    refine wpAny_bind (wpAny_bind (wpAny_onRaise ?_))
    show wpAny _ _ (Builtin.SmallTypes.nextOf (.ref i2) >>= _) _ _ _
    refine wpAny_bind (β.last hh (β.itE h2 fun o e => hs₃.extBut _ _ D.TOi2.symm (hs₂.extBut _ _ D.i12.symm (hs₁.extBut _ _ D.i2z e))) (β.isE (β.isE (β.isE hl2 hs₁.extBut D.l2z) hs₂.extBut D.l2i1) hs₃.extBut D.l2TO) hy fun h₄ e hs₄ he => ?_)
    obtain ⟨oe, hoe, hce⟩ := he
    have hz₄ : IsZip h₄ z TI TO .ellipsis := hs₄ _ _ D.i2z.symm (hs₃.extBut _ _ D.TOz.symm (hs₂.extBut _ _ D.i1z.symm hz₁))
    have hez : e ≠ z := fun x => by subst x; rw [hz₄] at hoe; cases hoe; simp at hce
    refine wpAny_setField_rec hz₄ (by simp) fun h₅ _ hs₅ => hE h₅ e (fun c o c1 c2 c3 c4 x => hs₅.extBut _ _ c1 (hs₄ _ _ c4 (hs₃.extBut _ _ c2 (hs₂.extBut _ _ c3 (hs₁.extBut _ _ c1 x))))) ⟨oe, hs₅.extBut _ _ hez hoe, hce⟩
theorem py_item {Q : Option Value → Shared → Prop} (D : ZipApart z TI TO i1 i2 l1 l2) (Z : Zp α β s.heap z TI TO i1 i2 l1 l2 k) (hl1 : α.Is s.heap l1 xs) (hl2 : β.Is s.heap l2 ys) (hx : xs[k]? = some x) (hy : ys[k]? = some y)
    (hQ : ∀ h', IsZip h' z TI TO (rawInt s.heap.objs.size) → IsPair h' TO x y → α.It h' i1 l1 (k + 1) → β.It h' i2 l2 (k + 1) → IsPair h' s.heap.objs.size x y → h'.objs.size = s.heap.objs.size + 1 →
      (∀ c o, c ≠ z → c ≠ TO → c ≠ i1 → c ≠ i2 → s.heap.get? c = some o → h'.get? c = some o) → Q (some (.ref s.heap.objs.size)) { s with heap := h' }) :
    wpAny (model prog w) A (pyNext (.ref z)) Q E s := by
  have hT : s.TypeIs (.ref z) "zip" := ⟨_, Z.zip, rfl⟩
  unfold pyNext
  exact wpAny_bind (wpAny_attempt (wpAny_callSpecial?_slot (name := Str.ofString "__next__") hT F.slot_zip_next
    (wpAny_call_entry F.slot_zip_next hT F.entry_zip_next (next_item D Z hl1 hl2 hx hy fun h' a1 a2 a3 a4 a5 a6 a7 => wpAny_pure (hQ h' a1 a2 a3 a4 a5 a6 a7)) (F.args_zip_next_1 _))))
theorem py_end {Q : Option Value → Shared → Prop} (hh : A.handled = none) (D : ZipApart z TI TO i1 i2 l1 l2) (Z : Zp α β s.heap z TI TO i1 i2 l1 l2 k) (hl1 : α.Is s.heap l1 xs) (hl2 : β.Is s.heap l2 ys) (hend : xs[k]? = none ∨ ys[k]? = none)
    (hQ : ∀ h', (∀ c o, c ≠ z → c ≠ TO → c ≠ i1 → c ≠ i2 → s.heap.get? c = some o → h'.get? c = some o) → Q none { s with heap := h' }) : wpAny (model prog w) A (pyNext (.ref z)) Q E s := by
  have hT : s.TypeIs (.ref z) "zip" := ⟨_, Z.zip, rfl⟩
  unfold pyNext
  refine wpAny_bind (wpAny_attempt (wpAny_callSpecial?_slot (name := Str.ofString "__next__") hT F.slot_zip_next
    (wpAny_call_entry F.slot_zip_next hT F.entry_zip_next (next_end hh D Z hl1 hl2 hend fun h' e hk he => ?_) (F.args_zip_next_1 _))))
  obtain ⟨o, ho, hc⟩ := he
  exact wpAny_bind (wpAny_isInstance (T := "StopIteration") (b := true) ⟨o, ho, hc⟩ isSubtype_stop (wpAny_pure (hQ _ hk)))
end
/-- kinds as the tracked heap has them -/
structure Tk (α : Sk) (Sq : PySem.W.Frag → Hp → Addr → List V → Prop) : Prop where
  get : ∀ {X : Cx} {pins : List (Addr × Obj)} {σ : L2.St} {H : Hp} {s : Shared} {a : Addr} {xs : List V}, Inv X pins σ H s → Sq X.K H a xs → ∃ its : List Value, Vals xs its ∧ α.Is s.heap a its.toArray ∧ a < s.heap.objs.size
  inj : ∀ {X : Cx} {pins : List (Addr × Obj)} {σ : L2.St} {H : Hp} {s : Shared} {a : Addr} {xs ys : List V}, Inv X pins σ H s → Sq X.K H a xs → Sq X.K H a ys → xs = ys
theorem tkL : Tk skL SqL := ⟨fun I h => by
  obtain ⟨its, rv, p, _⟩ := I.list h
  exact ⟨its, rv, p.isList, p.lt⟩, fun I h1 h2 => I.list_inj h1 h2⟩
theorem tkT : Tk skT SqT := ⟨fun I h => by
  obtain ⟨its, rv, p, _⟩ := I.tuple h
  obtain ⟨o, ho, _⟩ := id p
  exact ⟨its, rv, p, Heap.lt_size ho⟩, fun I h1 h2 => I.tuple_inj h1 h2⟩
def ItM (Sq Sr : PySem.W.Frag → Hp → Addr → List V → Prop) (K : PySem.W.Frag) (a b : Addr) : It :=
  ⟨fun i H => ∃ (xs ys : List V) (x y : V), Sq K H a xs ∧ Sr K H b ys ∧ xs[i]? = some x ∧ ys[i]? = some y,
    fun i H v H' => ∃ T x y, v = .ref T ∧ H T = none ∧ H' = upd H T (.tup [x, y]) ∧ (∀ xs, Sq K H a xs → xs[i]? = some x) ∧ ∀ ys, Sr K H b ys → ys[i]? = some y,
    fun i H => ∃ xs ys : List V, Sq K H a xs ∧ Sr K H b ys ∧ (xs.length ≤ i ∨ ys.length ≤ i)⟩
theorem turnM {α β : Sk} {Sq Sr : PySem.W.Frag → Hp → Addr → List V → Prop} (U : Tk α Sq) (U' : Tk β Sr) {P : Program} {w : World} {K : PySem.W.Frag} {elts : List Expr} {kk : Nat} {tpos : Pos} {a b z TI TO i1 i2 : Addr} (D : ZipApart z TI TO i1 i2 a b) :
    Turn P w K (.Tuple elts kk tpos) (ItM Sq Sr K a b) [z, TI, TO, i1, i2] z (fun i h => Zp α β h z TI TO i1 i2 a b i) where
  mem := by simp
  obj := fun i h st c hc => by
    obtain ⟨hz, hTI, ⟨x, y, hTO⟩, h1, h2⟩ := st
    have e' : c = z ∨ c = TI ∨ c = TO ∨ c = i1 ∨ c = i2 := by simpa using hc
    rcases e' with q | q | q | q | q
    · rw [q]; exact ⟨_, hz, fun v q => nomatch q⟩
    · rw [q]; exact ⟨_, hTI, fun v q => nomatch q⟩
    · rw [q]; exact ⟨_, hTO, fun v q => nomatch q⟩
    · rw [q]; exact α.obj h1
    · rw [q]; exact β.obj h2
  keep := fun i h h' st k => by
    obtain ⟨hz, hTI, ⟨x, y, hTO⟩, h1, h2⟩ := st
    exact ⟨k z (by simp) _ hz, k TI (by simp) _ hTI, ⟨x, y, k TO (by simp) _ hTO⟩, α.itE h1 fun o q => k i1 (by simp) o q, β.itE h2 fun o q => k i2 (by simp) o q⟩
  item := by
    intro X hP hw hK hc i pins s σ H E I hf st hg
    subst hP hw hK
    obtain ⟨xs, ys, x, y, hqx, hqy, hx, hy⟩ := hg
    obtain ⟨its, rv, p, _⟩ := U.get I hqx
    obtain ⟨its2, rv2, p2, _⟩ := U'.get I hqy
    obtain ⟨u, hu, ru⟩ := rv.get hx
    obtain ⟨u2, hu2, ru2⟩ := rv2.get hy
    have hzl : z < s.heap.objs.size := Heap.lt_size st.zip
    refine py_item D st p p2 (x := u) (y := u2) (by simpa using hu) (by simpa using hu2) fun h' z' TO' h1' h2' hT hsz hk => ?_
    refine ⟨_, rfl, wpAny_letOwnedTupleGo_zip (s := { s with heap := h' }) z' fun h'' z'' sb => ?_⟩
    have hT2 : h''.get? s.heap.objs.size = some { cls := .type "tuple", data := .seq #[u, u2] } := (sb.2 _ (Nat.ne_of_gt hzl)).trans hT
    have new : ObjOk X.prog X.w (upd H s.heap.objs.size (.tup [x, y])) h'' s.heap.objs.size (.tup [x, y]) :=
      ⟨by show 2 ≤ sizeLine; decide, [u, u2], .cons ru (.cons ru2 .nil), ⟨_, hT2, rfl, _, rfl⟩⟩
    have I1 : Inv X pins σ (upd H s.heap.objs.size (.tup [x, y])) { s with heap := h'' } :=
      I.turnedNew (t' := s.toks) (ch := [z, TI, TO, i1, i2]) (fun c o hb q => (sb.2 c (fun q' => hb (by simp [q']))).trans (hk c o (fun q' => hb (by simp [q'])) (fun q' => hb (by simp [q'])) (fun q' => hb (by simp [q'])) (fun q' => hb (by simp [q'])) q)) hf (Nat.le_refl _) new
    refine ⟨.ref s.heap.objs.size, _, I1, rfl, ⟨_, x, y, rfl, I.hok.fresh (Nat.le_refl _), rfl, fun l hl => by rw [U.inj I hl hqx]; exact hx, fun l hl => by rw [U'.inj I hl hqy]; exact hy⟩, ⟨z'', ?_, ⟨u, u2, ?_⟩, ?_, ?_⟩, fun c hcm => ?_⟩
    · exact (sb.2 _ D.TIz).trans (hk _ _ D.TIz D.TITO D.TIi1 D.TIi2 st.ti)
    · exact (sb.2 _ D.TOz).trans TO'
    · exact α.itE h1' fun o q => (sb.2 _ D.i1z).trans q
    · exact β.itE h2' fun o q => (sb.2 _ D.i2z).trans q
    · have hlt : c < s.heap.objs.size := by
        have e' : c = z ∨ c = TI ∨ c = TO ∨ c = i1 ∨ c = i2 := by simpa using hcm
        obtain ⟨_, hTI, ⟨x0, y0, hTO⟩, h1, h2⟩ := st
        rcases e' with q | q | q | q | q
        · rw [q]; exact hzl
        · rw [q]; exact Heap.lt_size hTI
        · rw [q]; exact Heap.lt_size hTO
        · rw [q]; obtain ⟨_, e1, _⟩ := α.obj h1; exact Heap.lt_size e1
        · rw [q]; obtain ⟨_, e2, _⟩ := β.obj h2; exact Heap.lt_size e2
      rw [upd_ne (Nat.ne_of_lt hlt)]
      exact (hf c hcm).1
  done := by
    intro X hP hw hK hc i pins s σ H E I hf st hg
    subst hP hw hK
    obtain ⟨xs, ys, hqx, hqy, hend⟩ := hg
    obtain ⟨its, rv, p, _⟩ := U.get I hqx
    obtain ⟨its2, rv2, p2, _⟩ := U'.get I hqy
    have l1 := rv.length
    have l2 := rv2.length
    have he : its.toArray[i]? = none ∨ its2.toArray[i]? = none := by
      rcases hend with q | q
      · exact .inl (by simp; omega)
      · exact .inr (by simp; omega)
    exact py_end (I.ok.hd hc) D st p p2 he fun h' hk => ⟨rfl, I.turnedL (t' := s.toks) (ch := [z, TI, TO, i1, i2]) (fun c o hb q =>
      hk c o (fun q' => hb (by simp [q'])) (fun q' => hb (by simp [q'])) (fun q' => hb (by simp [q'])) (fun q' => hb (by simp [q'])) q) hf⟩
  self := fun A i s Q E st h => wpAny_pyIter_zip st.zip h
/-! ### the call -/
abbrev zH1 (α : Sk) (h : Heap) (l1 : Addr) : Heap := h.push { cls := .type α.nm, data := .fields #[.ref l1, .int 0 0] }
abbrev zH2 (α β : Sk) (h : Heap) (l1 l2 : Addr) : Heap := (zH1 α h l1).push { cls := .type β.nm, data := .fields #[.ref l2, .int 0 0] }
abbrev zH3 (α β : Sk) (h : Heap) (l1 l2 : Addr) : Heap := (zH2 α β h l1 l2).push { cls := .type "tuple", data := .seq #[.ref h.objs.size, .ref (zH1 α h l1).objs.size] }
abbrev zH4 (α β : Sk) (h : Heap) (l1 l2 : Addr) : Heap := (zH3 α β h l1 l2).push { cls := .type "tuple", data := .seq #[.none, .none] }
abbrev zH5 (α β : Sk) (h : Heap) (l1 l2 : Addr) : Heap := (zH4 α β h l1 l2).push { cls := .type "zip", data := .fields #[.none, .bool false, .bool false, .ref (zH2 α β h l1 l2).objs.size, .ref (zH3 α β h l1 l2).objs.size] }
theorem newLT (l1 l2 : Addr) (xs ys : Array Value) :
    Meets (Builtin.«zip.__new__» ⟨[.type "zip", .ref l1, .ref l2], []⟩) (fun _ R s => s.heap.IsList l1 xs ∧ s.heap.IsTuple l2 ys ∧ R (.ok (.ret (.ref (zH4 skL skT s.heap l1 l2).objs.size))) { s with heap := zH5 skL skT s.heap l1 l2 }) :=
  .of_wp fun prog w A R s h => by
    obtain ⟨hp, g, d, tk, os⟩ := s; obtain ⟨hl1, hl2, h⟩ := h
    have hsub := sub_zip
    have hL1 : Heap.IsList (Shared.heap ⟨hp, g, d, tk, os⟩) l1 xs := hl1
    have hL2 : Heap.IsTuple (Shared.heap ⟨hp.push { cls := .type "list_iterator", data := .fields #[.ref l1, .int 0 0] }, g, d, tk, os⟩) l2 ys := Heap.IsTuple.push hl2 _
    wp_walk using wpAny_pyIter_list hL1, wpAny_pyIter_tuple hL2
    exact ⟨_, rfl, h⟩
theorem newTL (l1 l2 : Addr) (xs ys : Array Value) :
    Meets (Builtin.«zip.__new__» ⟨[.type "zip", .ref l1, .ref l2], []⟩) (fun _ R s => s.heap.IsTuple l1 xs ∧ s.heap.IsList l2 ys ∧ R (.ok (.ret (.ref (zH4 skT skL s.heap l1 l2).objs.size))) { s with heap := zH5 skT skL s.heap l1 l2 }) :=
  .of_wp fun prog w A R s h => by
    obtain ⟨hp, g, d, tk, os⟩ := s; obtain ⟨hl1, hl2, h⟩ := h
    have hsub := sub_zip
    have hL1 : Heap.IsTuple (Shared.heap ⟨hp, g, d, tk, os⟩) l1 xs := hl1
    have hL2 : Heap.IsList (Shared.heap ⟨hp.push { cls := .type "tuple_iterator", data := .fields #[.ref l1, .int 0 0] }, g, d, tk, os⟩) l2 ys := Heap.IsList.push hl2 _
    wp_walk using wpAny_pyIter_tuple hL1, wpAny_pyIter_list hL2
    exact ⟨_, rfl, h⟩
/-- the objects of a new zip -/
theorem laidZ {α β : Sk} {h : Heap} {l1 l2 : Addr} (hi1 : ∀ h' a l, h'.get? a = some { cls := .type α.nm, data := .fields #[.ref l, .int 0 0] } → α.It h' a l 0) (hi2 : ∀ h' a l, h'.get? a = some { cls := .type β.nm, data := .fields #[.ref l, .int 0 0] } → β.It h' a l 0) :
    (zH4 α β h l1 l2).objs.size = h.objs.size + 4 ∧ Zp α β (zH5 α β h l1 l2) (h.objs.size + 4) (h.objs.size + 2) (h.objs.size + 3) h.objs.size (h.objs.size + 1) l1 l2 0 ∧ ∀ c o, h.get? c = some o → (zH5 α β h l1 l2).get? c = some o := by
  have z1 : (zH1 α h l1).objs.size = h.objs.size + 1 := Heap.size_push ..
  have z2 : (zH2 α β h l1 l2).objs.size = h.objs.size + 2 := by rw [Heap.size_push, z1]
  have z3 : (zH3 α β h l1 l2).objs.size = h.objs.size + 3 := by rw [Heap.size_push, z2]
  have z4 : (zH4 α β h l1 l2).objs.size = h.objs.size + 4 := by rw [Heap.size_push, z3]
  have g5 : (zH5 α β h l1 l2).get? (zH4 α β h l1 l2).objs.size = some _ := Heap.get?_push_size _ rfl
  have g4 : (zH5 α β h l1 l2).get? (zH3 α β h l1 l2).objs.size = some _ := Heap.get?_push_of_some _ (Heap.get?_push_size _ rfl)
  have g3 : (zH5 α β h l1 l2).get? (zH2 α β h l1 l2).objs.size = some _ := Heap.get?_push_of_some _ (Heap.get?_push_of_some _ (Heap.get?_push_size _ rfl))
  have g2 : (zH5 α β h l1 l2).get? (zH1 α h l1).objs.size = some _ := Heap.get?_push_of_some _ (Heap.get?_push_of_some _ (Heap.get?_push_of_some _ (Heap.get?_push_size _ rfl)))
  have g1 : (zH5 α β h l1 l2).get? h.objs.size = some _ := Heap.get?_push_of_some _ (Heap.get?_push_of_some _ (Heap.get?_push_of_some _ (Heap.get?_push_of_some _ (Heap.get?_push_size _ rfl))))
  rw [z2, z3, z4] at g5
  rw [z1, z2] at g3
  rw [z3] at g4
  rw [z1] at g2
  exact ⟨z4, ⟨g5, g3, ⟨_, _, g4⟩, hi1 _ _ _ g1, hi2 _ _ _ g2⟩, fun c o x => Heap.get?_push_of_some _ (Heap.get?_push_of_some _ (Heap.get?_push_of_some _ (Heap.get?_push_of_some _ (Heap.get?_push_of_some _ x))))⟩
section
variable {prog : Program} {w : World} {A : Around} {E : Value → Shared → Prop} {s : Shared}
theorem callLT {l1 l2 : Addr} {xs ys : Array Value} {Q : Value → Shared → Prop} (hl1 : s.heap.IsList l1 xs) (hl2 : s.heap.IsTuple l2 ys)
    (h : ∀ h', Zp skL skT h' (s.heap.objs.size + 4) (s.heap.objs.size + 2) (s.heap.objs.size + 3) s.heap.objs.size (s.heap.objs.size + 1) l1 l2 0 → (∀ c o, s.heap.get? c = some o → h'.get? c = some o) → Q (.ref (s.heap.objs.size + 4)) { s with heap := h' }) :
    wpAny (model prog w) A (call (.type "zip") [.ref l1, .ref l2]) Q E s := by
  obtain ⟨z4, Z, kp⟩ := laidZ (α := skL) (β := skT) (h := s.heap) (l1 := l1) (l2 := l2) (fun _ _ _ g => ⟨_, g, rfl, rfl⟩) (fun _ _ _ g => ⟨_, g, rfl, rfl⟩)
  refine callType_new F.called_zip (by decide) (F.typeCall_zip_2 _ _) (F.newCall_zip_2 _ _) (fun obj => F.args_object_init_3 obj _ _) F.entry_zip_new (newLT l1 l2 xs ys) ⟨hl1, hl2, ?_⟩
  show _ ∧ _
  rw [z4]
  exact ⟨⟨_, Z.zip, rfl⟩, h _ Z kp⟩
theorem callTL {l1 l2 : Addr} {xs ys : Array Value} {Q : Value → Shared → Prop} (hl1 : s.heap.IsTuple l1 xs) (hl2 : s.heap.IsList l2 ys)
    (h : ∀ h', Zp skT skL h' (s.heap.objs.size + 4) (s.heap.objs.size + 2) (s.heap.objs.size + 3) s.heap.objs.size (s.heap.objs.size + 1) l1 l2 0 → (∀ c o, s.heap.get? c = some o → h'.get? c = some o) → Q (.ref (s.heap.objs.size + 4)) { s with heap := h' }) :
    wpAny (model prog w) A (call (.type "zip") [.ref l1, .ref l2]) Q E s := by
  obtain ⟨z4, Z, kp⟩ := laidZ (α := skT) (β := skL) (h := s.heap) (l1 := l1) (l2 := l2) (fun _ _ _ g => ⟨_, g, rfl, rfl⟩) (fun _ _ _ g => ⟨_, g, rfl, rfl⟩)
  refine callType_new F.called_zip (by decide) (F.typeCall_zip_2 _ _) (F.newCall_zip_2 _ _) (fun obj => F.args_object_init_3 obj _ _) F.entry_zip_new (newTL l1 l2 xs ys) ⟨hl1, hl2, ?_⟩
  show _ ∧ _
  rw [z4]
  exact ⟨⟨_, Z.zip, rfl⟩, h _ Z kp⟩
end
/-- zip of two sequences, of any kinds -/
def iZipM (K : PySem.W.Frag) (ta : TA) : TI := fun σ H R => ta σ H fun vs H1 => ∃ a b xs ys, vs = [.ref a, .ref b] ∧ ((SqL K H1 a xs ∧ SqL K H1 b ys ∧ R (Itz K a b) H1) ∨ (SqT K H1 a xs ∧ SqT K H1 b ys ∧ R (RZ.ItzT K a b) H1) ∨ (SqL K H1 a xs ∧ SqT K H1 b ys ∧ R (ItM SqL SqT K a b) H1) ∨ (SqT K H1 a xs ∧ SqL K H1 b ys ∧ R (ItM SqT SqL K a b) H1))
theorem pi_zipM {X : Cx} {e e2 : Expr} {ta : TA} {p pos tpos : Pos} {elts : List Expr} {kk : Nat} (hg : Gl X "zip") (hm : X.mg "zip" = none) (ha : PA X [e, e2] ta)
    (hs : starEach [e, e2] X.env = (false, eval e X.env) :: starEach [e2] X.env := by rfl) (hpl : (backTo pos (starEach [e2] X.env)).any (·.1) = false := by rfl) :
    PI X (.Tuple elts kk tpos) (.Call (.Name "zip" p) [e, e2] [] pos) (iZipM X.K ta) := by
  refine ⟨fun pins s σ H R I h => ?_⟩
  refine Call_ (ld_blt I hg hm PyProof.Rows.boot_zip (PyProof.Rows.callWith_type1 (thn (ha.run pos pins s σ H _ I h) fun us s1 ⟨vs, H1, I1, r1, q1⟩ => ?_) hs hpl))
  obtain ⟨a, b, xs, ys, ex, q1⟩ := q1
  subst ex
  cases r1 with
  | cons r rr =>
    cases rr with
    | cons r' rr =>
      cases rr
      cases r
      cases r'
      have fresh5 : ∀ c, c ∈ [s1.heap.objs.size + 4, s1.heap.objs.size + 2, s1.heap.objs.size + 3, s1.heap.objs.size, s1.heap.objs.size + 1] → FpOk X pins H1 c := fun c hcm => by
        have hle : s1.heap.objs.size ≤ c := by
          simp only [List.mem_cons, List.not_mem_nil, or_false] at hcm
          omega
        exact I1.fpOk hle (I1.hok.fresh hle)
      rcases q1 with ⟨hqx, hqy, q⟩ | ⟨hqx, hqy, q⟩ | ⟨hqx, hqy, q⟩ | ⟨hqx, hqy, q⟩
      · obtain ⟨its, rv, p1, _⟩ := I1.list hqx
        obtain ⟨its2, rv2, p2, _⟩ := I1.list hqy
        refine call_zip_2 p1.isList p2.isList fun h' hz hTI hTO h1 h2 hsz hk => wpAny_pyIter_zip hz ?_
        have I2 : Inv X pins σ H1 { s1 with heap := h' } := I1.kept (t' := s1.toks) hk
        exact ⟨s1.heap.objs.size + 4, _, _, _, H1, rfl, I2, turn_zip (PySem.W.ktu_apart s1.heap.objs.size a b p1.lt p2.lt), ⟨hz, hTI, ⟨_, _, hTO⟩, h1, h2⟩, fresh5, q⟩
      · obtain ⟨its, rv, p1, _⟩ := I1.tuple hqx
        obtain ⟨its2, rv2, p2, _⟩ := I1.tuple hqy
        obtain ⟨o1, ho1, _⟩ := id p1
        obtain ⟨o2, ho2, _⟩ := id p2
        refine RZ.call_zipT (show s1.heap.IsTuple a its.toArray from p1) (show s1.heap.IsTuple b its2.toArray from p2) fun h' hz hTI hTO h1 h2 hsz hk => wpAny_pyIter_zip hz ?_
        have I2 : Inv X pins σ H1 { s1 with heap := h' } := I1.kept (t' := s1.toks) hk
        exact ⟨s1.heap.objs.size + 4, _, _, _, H1, rfl, I2, RZ.turn_zipT (PySem.W.ktu_apart s1.heap.objs.size a b (Heap.lt_size ho1) (Heap.lt_size ho2)), ⟨hz, hTI, ⟨_, _, hTO⟩, h1, h2⟩, fresh5, q⟩
      · obtain ⟨its, rv, p1, g1⟩ := tkL.get I1 hqx
        obtain ⟨its2, rv2, p2, g2⟩ := tkT.get I1 hqy
        refine callLT p1 p2 fun h' Z hk => wpAny_pyIter_zip Z.zip ?_
        have I2 : Inv X pins σ H1 { s1 with heap := h' } := I1.kept (t' := s1.toks) hk
        exact ⟨s1.heap.objs.size + 4, _, _, _, H1, rfl, I2, turnM tkL tkT (PySem.W.ktu_apart s1.heap.objs.size a b g1 g2), Z, fresh5, q⟩
      · obtain ⟨its, rv, p1, g1⟩ := tkT.get I1 hqx
        obtain ⟨its2, rv2, p2, g2⟩ := tkL.get I1 hqy
        refine callTL p1 p2 fun h' Z hk => wpAny_pyIter_zip Z.zip ?_
        have I2 : Inv X pins σ H1 { s1 with heap := h' } := I1.kept (t' := s1.toks) hk
        exact ⟨s1.heap.objs.size + 4, _, _, _, H1, rfl, I2, turnM tkT tkL (PySem.W.ktu_apart s1.heap.objs.size a b g1 g2), Z, fresh5, q⟩
end MPZ

/-! MPI: what a loop walks, its targets, list comprehensions. -/
namespace MP
open PySem PySem.Spec PyProof.Rows L2

/-- garbage of an expression goes -/
noncomputable def eDrop (f : Ev) : Ev := fun ρ S => match f ρ S with
  | some (.ok d S') => some (.ok d (dropR S d S'))
  | r => r

/-- the targets of loops and comprehensions -/
inductive Tg where
  | one (i : Nat) | many (is : List Nat)
def setAll {α : Type} : List (Option α) → List Nat → List α → List (Option α)
  | ρ, [], _ => ρ
  | ρ, _ :: _, [] => ρ
  | ρ, i :: is, d :: ds => setAll (ρ.set i (some d)) is ds
def Tg.slots : Tg → List Nat
  | .one i => [i]
  | .many is => is
def Tg.asg : Tg → D → En → Option En
  | .one i, d, ρ => some (ρ.set i (some d))
  | .many is, .tup ds, ρ => if ds.length = is.length then some (setAll ρ is ds) else none
  | .many _, _, _ => none
/-- the cells that a loop walks: they stay as they are -/
inductive Src where
  | non | lst (r : Nat) (xs : List D) | two (a b : Src)
def Src.ok : Src → Store → Prop
  | .non, _ => True
  | .lst r xs, S => S[r]? = some (.lst xs)
  | .two a b, S => a.ok S ∧ b.ok S
structure Itm where
  items : List D
  src : Src
abbrev Iv := En → M Itm
/-- a sequence's items -/
def seqM : D → M (List D × Src)
  | .tup xs => .ret (xs, .non)
  | .flst xs => .ret (xs, .non)
  | .ref r => .bind (getL r) fun xs => .ret (xs, .lst r xs)
  | _ => .stuck
def iSeq (e : Ev) : Iv := fun ρ => .bind (e ρ) fun x => .bind (seqM x) fun p => .ret ⟨p.1, p.2⟩
def rngOk (i : Int) : Prop := -(2 ^ 62) ≤ i ∧ i < 2 ^ 62
instance (i : Int) : Decidable (rngOk i) := by unfold rngOk; infer_instance
def rngL (i j : Int) : List D := (List.range (j - i).toNat).map fun n => .int (i + (n : Nat))
def iRng1 (e : Ev) : Iv := fun ρ => .bind (e ρ) fun x => match x with
  | .int j => .guard (rngOk j) (.ret ⟨rngL 0 j, .non⟩)
  | _ => .stuck
def iRng2 (e f : Ev) : Iv := fun ρ => .bind (e ρ) fun x => .bind (f ρ) fun y => match x, y with
  | .int i, .int j => .guard (rngOk i ∧ rngOk j) (.ret ⟨rngL i j, .non⟩)
  | _, _ => .stuck
def zipL (xs ys : List D) : List D := (xs.zip ys).map fun p => .tup [p.1, p.2]
def enumL (xs : List D) : List D := xs.zipIdx.map fun p => .tup [.int (p.2 : Nat), p.1]
def iZip (e f : Ev) : Iv := fun ρ => .bind (e ρ) fun x => .bind (f ρ) fun y => .bind (seqM x) fun p => .bind (seqM y) fun q => .ret ⟨zipL p.1 q.1, .two p.2 q.2⟩

section
variable {Γ : Pg} {X : Cx} {G : GW} {W : WX} {C : Calls} {a b c e tg iter : Expr} {pos : Pos} {fa fb : Ev} {k : Nat}
theorem se_drop (ha : SE X G W a fa) : SE X G W a (eDrop fa) := by
  refine PEimp ha fun σ H Q h => ?_
  obtain ⟨m, F, ρ, S, s, e, r⟩ := h
  refine ⟨m, F, ρ, S, s, e, ?_⟩
  obtain ⟨r1, q, h⟩ := r
  unfold eDrop at q
  split at q
  · rename_i d S' e1
    cases q
    refine ⟨_, e1, fun m' F' H' v h1 h2 h3 => ?_⟩
    obtain ⟨m2, q1, q2, q3⟩ := dropR_ok s h1 h2 h3
    exact h m2 F' H' v q1 q2 q3
  · exact ⟨r1, q, h⟩

/-! ### targets -/
def gNames : List Nat → TGs
  | [] => gNil
  | i :: is => gCons (gName i) (gNames is)
theorem gNames_ok {Q : St → Hp → Prop} {H : Hp} : ∀ {is : List Nat} {vs : List V} {σ : St}, vs.length = is.length → Q (setAll σ is vs) H → gNames is vs σ H Q
  | [], vs, σ, hl, q => by
    have : vs = [] := List.length_eq_zero_iff.mp hl
    subst this
    exact ⟨rfl, q⟩
  | i :: is, [], σ, hl, q => by simp at hl
  | i :: is, v :: vs, σ, hl, q => ⟨v, vs, rfl, gNames_ok (by simpa using hl) q⟩
theorem setAll_rel {m : List Addr} {F : Hp} : ∀ {is : List Nat} {ds : List D} {vs : List V} {ρ : En} {σ : St}, relE G m F ρ σ → relDs G m F ds vs → relE G m F (setAll ρ is ds) (setAll σ is vs)
  | [], ds, vs, ρ, σ, r, h => by
    cases ds <;> cases vs <;> exact r
  | i :: is, [], vs, ρ, σ, r, h => by
    rw [show vs = [] from h]; exact r
  | i :: is, d :: ds, _, ρ, σ, r, ⟨v, vs, rfl, h1, h2⟩ => setAll_rel (is := is) (ds := ds) (vs := vs) (ρ := ρ.set i (some d)) (σ := σ.set i (some v)) (r.set i h1) h2
theorem setAll_length {α : Type} : ∀ {is : List Nat} {ds : List α} {ρ : List (Option α)}, (setAll ρ is ds).length = ρ.length
  | [], _, _ => rfl
  | i :: is, [], _ => rfl
  | i :: is, d :: ds, ρ => by
    show (setAll (ρ.set i (some d)) is ds).length = _
    rw [setAll_length]; simp
/-- the target stores as told -/
def Tg.g (K : PySem.W.Frag) : Tg → TG
  | .one i => gName i
  | .many is => gTup K is.length (gNames is)
abbrev SG (X : Cx) (tg : Expr) (t : Tg) : Prop := PG X tg (t.g X.K)
theorem sg_one {i : Nat} {x : Str} (hN : X.N.Nodup) (hi : X.N[i]? = some x) (hx : Loc X.env.scope x) (hf : X.fn x = true ∨ X.env.scope.names.lookup x = some .local) : SG X (.Name x pos) (.one i) := pg_name hN hi hx hf
theorem setAll_ne {α : Type} {j : Nat} : ∀ {is : List Nat} {ds : List α} {ρ : List (Option α)}, j ∉ is → (setAll ρ is ds)[j]? = ρ[j]?
  | [], _, _, _ => rfl
  | i :: is, [], _, _ => rfl
  | i :: is, d :: ds, ρ, h => by
    simp only [List.mem_cons, not_or] at h
    show (setAll (ρ.set i (some d)) is ds)[j]? = _
    rw [setAll_ne h.2, List.getElem?_set_ne (Ne.symm h.1)]
inductive Names (X : Cx) : List Expr → List Nat → Prop
  | nil : Names X [] []
  | cons {i : Nat} {x : Str} {p : Pos} {es : List Expr} {is : List Nat} : X.N[i]? = some x → Loc X.env.scope x → (X.fn x = true ∨ X.env.scope.names.lookup x = some .local) → Names X es is → Names X (.Name x p :: es) (i :: is)
theorem names_each {es : List Expr} {is : List Nat} (h : Names X es is) : (assignEach es X.env).length = is.length ∧ (assignEach es X.env).findIdx? (·.1) = none := by
  induction h with
  | nil => exact ⟨rfl, rfl⟩
  | @cons i x p es is _ _ _ _ ih =>
    have e1 : assignEach (.Name x p :: es) X.env = (false, assign (.Name x p) X.env) :: assignEach es X.env := rfl
    rw [e1]
    refine ⟨by rw [List.length_cons, List.length_cons, ih.1], ?_⟩
    rw [List.findIdx?_cons]
    simp [ih.2]
theorem names_pgs {es : List Expr} {is : List Nat} (hN : X.N.Nodup) (h : Names X es is) : PGs X es (gNames is) := by
  induction h with
  | nil => exact pgs_nil
  | cons h1 h2 h3 _ ih => exact pgs_cons (pg_name hN h1 h2 h3) ih rfl
theorem sg_many {es : List Expr} {is : List Nat} {kk : Nat} (hc : X.calm = true) (hN : X.N.Nodup) (h : Names X es is) : SG X (.Tuple es kk pos) (.many is) := by
  obtain ⟨e1, e2⟩ := names_each h
  exact pg_tup (n := is.length) hc (names_pgs hN h) e1 e2
theorem Tg.g_ok {t : Tg} {m : List Addr} {F : Hp} {S : Store} {H : Hp} {σ : St} {ρ ρ' : En} {d : D} {v : V} {Q : St → Hp → Prop} (s : Sim G m F S H) (r : relE G m F ρ σ) (hd : relD G m F d v) (e : t.asg d ρ = some ρ')
    (q : ∀ σ', relE G m F ρ' σ' → (∀ i, i ∉ t.slots → σ'[i]? = σ[i]?) → Q σ' H) : t.g G.K v σ H Q := by
  cases t with
  | one i =>
    cases e
    refine q _ (r.set i hd) fun j hj => ?_
    have : j ≠ i := by simpa [Tg.slots] using hj
    rw [List.getElem?_set_ne (Ne.symm this)]
  | many is =>
    cases d with
    | tup ds =>
      have e' : (if ds.length = is.length then some (setAll ρ is ds) else none) = some ρ' := e
      split at e'
      · rename_i hl
        cases e'
        obtain ⟨a, vs, rfl, q1, q2⟩ := hd
        have hv : vs.length = is.length := by rw [← q2.length]; exact hl
        exact ⟨a, vs, rfl, s.sqT q1, hv, gNames_ok hv (q _ (setAll_rel r q2) fun j hj => setAll_ne hj)⟩
      · cases e'
    | _ => cases e
end
end MP

/-! MPJ: what a loop walks is as told. -/
namespace MP
open PySem PySem.Spec PyProof.Rows L2

/-- the library's walk J gives the items -/
def relI (G : GW) : List Addr → Hp → Itm → It → Prop := fun m F it J =>
  ∀ m' F' S' H', Ext m F m' F' → Sim G m' F' S' H' → it.src.ok S' → (∀ i, it.items.length ≤ i → J.stop i H') ∧
    ∀ (i : Nat) d, it.items[i]? = some d → J.go i H' ∧ ∀ x H2, J.yld i H' x H2 → ∃ F2, Ext m' F' m' F2 ∧ Sim G m' F2 S' H2 ∧ relD G m' F2 d x
abbrev SI (X : Cx) (G : GW) (W : WX) (tg iter : Expr) (f : Iv) : Prop := PI X tg iter (tM G W (relI G) f)
theorem PIimp {X : Cx} {tg iter : Expr} {t t' : TI} (h : PI X tg iter t) (w : ∀ σ H R, t' σ H R → t σ H R) : PI X tg iter t' := ⟨fun pins s σ H R I q => h.run pins s σ H R I (w σ H R q)⟩
def iEnum' (e : Ev) : Iv := fun ρ => .bind (e ρ) fun x => .bind (seqM x) fun p => .ret ⟨enumL p.1, p.2⟩

/-- a value is a sequence of these, as long as its cells stay -/
def SeqAt' (G : GW) (m : List Addr) (F : Hp) (x : V) (ds : List D) (src : Src) (tup : Bool) : Prop :=
  ∃ a, x = .ref a ∧ ∃ vs, relDs G m F ds vs ∧ ∀ m' F' S' H', Ext m F m' F' → Sim G m' F' S' H' → src.ok S' → if tup = true then SqT G.K H' a vs else ∃ ws, SqL G.K H' a ws ∧ relDs G m' F' ds ws
def isTupD : D → Bool
  | .tup _ => true
  | _ => false
section
variable {Γ : Pg} {X : Cx} {G : GW} {W : WX} {C : Calls} {a b c e tg iter : Expr} {pos : Pos} {fa fb : Ev} {k : Nat}
theorem seq_run {γ δ : Type} {rel : List Addr → Hp → γ → δ → Prop} {σ : St} {m : List Addr} {F : Hp} {S : Store} {H : Hp} {d : D} {x : V} {f : List D × Src → M γ} {Q : δ → Hp → Prop} (h : Run G W σ rel (M.bind (seqM d) f) m F S Q) (s : Sim G m F S H) (r : relD G m F d x) :
    ∃ ds src, SeqAt' G m F x ds src (isTupD d) ∧ src.ok S ∧ Run G W σ rel (f (ds, src)) m F S Q := by
  cases d with
  | tup xs =>
    obtain ⟨a, vs, rfl, q1, q2⟩ := r
    exact ⟨xs, .non, ⟨a, rfl, vs, q2, fun m' F' S' H' e s' _ => s'.sqT (e.sqT q1)⟩, trivial, h⟩
  | flst xs =>
    obtain ⟨a, vs, rfl, q1, q2⟩ := r
    exact ⟨xs, .non, ⟨a, rfl, vs, q2, fun m' F' S' H' e s' _ => ⟨vs, s'.sqL (e.sqL q1), q2.mono e⟩⟩, trivial, h⟩
  | ref i =>
    obtain ⟨a, rfl, ha⟩ := r
    have h' : Run G W σ rel (M.bind (getL i) fun xs => f (xs, .lst i xs)) m F S Q := by
      have : M.bind (seqM (.ref i)) f = M.bind (getL i) fun xs => f (xs, .lst i xs) := by
        show M.bind (M.bind (getL i) fun xs => .ret (xs, .lst i xs)) f = _
        rw [M.bind_assoc]; rfl
      rw [this] at h; exact h
    obtain ⟨xs, vs, e1, q1, q2, h2⟩ := run_getL h' s ha
    refine ⟨xs, .lst i xs, ⟨a, rfl, vs, q2, fun m' F' S' H' e s' ok => ?_⟩, e1, h2⟩
    obtain ⟨ws, w1, w2⟩ := s'.cel i a _ (e.pre _ _ ha) ok
    exact ⟨ws, .of w1, w2⟩
  | non => exact (Run.stuck (α := γ) (rel := rel) h).elim
  | bl _ => exact (Run.stuck (α := γ) (rel := rel) h).elim
  | int _ => exact (Run.stuck (α := γ) (rel := rel) h).elim
  | str _ => exact (Run.stuck (α := γ) (rel := rel) h).elim
  | obj _ _ => exact (Run.stuck (α := γ) (rel := rel) h).elim
  | fn _ => exact (Run.stuck (α := γ) (rel := rel) h).elim
  | cls _ => exact (Run.stuck (α := γ) (rel := rel) h).elim
  | ty _ => exact (Run.stuck (α := γ) (rel := rel) h).elim
theorem seq_tup {m : List Addr} {F : Hp} {S : Store} {H : Hp} {x : V} {ds : List D} {src : Src} (h : SeqAt' G m F x ds src true) (s : Sim G m F S H) (ok : src.ok S) : ∃ a vs, x = .ref a ∧ relDs G m F ds vs ∧ SqT G.K H a vs ∧ ∀ m' F' S' H', Ext m F m' F' → Sim G m' F' S' H' → src.ok S' → SqT G.K H' a vs := by
  obtain ⟨a, rfl, vs, r, q⟩ := h
  exact ⟨a, vs, rfl, r, by have := q m F S H .refl s ok; simpa using this, fun m' F' S' H' e s' ok' => by have := q m' F' S' H' e s' ok'; simpa using this⟩
theorem seq_lst {m : List Addr} {F : Hp} {S : Store} {H : Hp} {x : V} {ds : List D} {src : Src} (h : SeqAt' G m F x ds src false) (s : Sim G m F S H) (ok : src.ok S) : ∃ a, x = .ref a ∧ (∃ vs, SqL G.K H a vs) ∧ ∀ m' F' S' H', Ext m F m' F' → Sim G m' F' S' H' → src.ok S' → ∃ ws, SqL G.K H' a ws ∧ relDs G m' F' ds ws := by
  obtain ⟨a, rfl, vs, r, q⟩ := h
  have q' : ∀ m' F' S' H', Ext m F m' F' → Sim G m' F' S' H' → src.ok S' → ∃ ws, SqL G.K H' a ws ∧ relDs G m' F' ds ws := fun m' F' S' H' e s' ok' => by have := q m' F' S' H' e s' ok'; simpa using this
  obtain ⟨ws, w1, _⟩ := q' m F S H .refl s ok
  exact ⟨a, rfl, ⟨ws, w1⟩, q'⟩

/-- a list or a tuple, walked -/
def iSq (K : PySem.W.Frag) (tl : TE) : TI := fun σ H R => tl σ H fun x H1 => ∃ a, x = .ref a ∧ (((∃ xs, SqT K H1 a xs) ∧ R (Itt K a) H1) ∨ ((∃ xs, SqL K H1 a xs) ∧ R (Itl K a) H1))
theorem pi_sq {l : Expr} {tl : TE} (hl : PE X l tl) : PI X tg l (iSq X.K tl) := by
  refine ⟨fun pins s σ H R I h => ?_⟩
  refine thn (hl.run pins s σ H _ I h) fun v s1 ⟨x, H1, I1, r1, q1⟩ => ?_
  obtain ⟨a, e, q⟩ := q1
  subst e
  cases r1
  have hf : ∀ b ∈ [s1.heap.objs.size], FpOk X pins H1 b := fun b hb => by
    have e : b = s1.heap.objs.size := by simpa using hb
    subst e
    exact I1.fpOk (Nat.le_refl _) (I1.hok.fresh (Nat.le_refl _))
  rcases q with ⟨⟨xs, hq⟩, q⟩ | ⟨⟨xs, hq⟩, q⟩
  · obtain ⟨its, rv, p, hz⟩ := I1.tuple hq
    refine wpAny_pyIter_tuple (show s1.heap.IsTuple a its.toArray from p) ?_
    exact ⟨s1.heap.objs.size, [s1.heap.objs.size], _, _, H1, rfl, I1.kept (t' := s1.toks) fun b o e => Heap.get?_push_of_some _ e, turn_tuple a _, ⟨_, Heap.get?_push_size _ rfl, rfl, rfl⟩, hf, q⟩
  · obtain ⟨its, rv, p, hz⟩ := I1.list hq
    refine wpAny_pyIter_list p.isList ?_
    exact ⟨s1.heap.objs.size, [s1.heap.objs.size], _, _, H1, rfl, I1.kept (t' := s1.toks) fun b o e => Heap.get?_push_of_some _ e, turn_list a _, ⟨_, Heap.get?_push_size _ rfl, rfl, rfl⟩, hf, q⟩
theorem si_seq (hK : X.K = G.K) (ha : SE X G W a fa) : SI X G W tg a (iSeq fa) := by
  refine PIimp (pi_sq ha) fun σ H R h => ?_
  refine (tM.bind h).imp fun x H1 ⟨m, F, ρ, S, d, s, _, hx, r⟩ => ?_
  obtain ⟨ds, src, hq, ok, r2⟩ := seq_run r s hx
  rw [hK]
  cases hd : isTupD d with
  | true =>
    rw [hd] at hq
    obtain ⟨ad, vs, rfl, q1, q2, q3⟩ := seq_tup hq s ok
    refine ⟨ad, rfl, .inl ⟨⟨vs, q2⟩, Run.ret (rel := relI G) r2 s fun m' F' S' H' e s' ok' => ⟨fun i hi => ⟨vs, q3 _ _ _ _ e s' ok', by rw [← q1.length]; exact hi⟩, fun i d' hd' => ?_⟩⟩⟩
    obtain ⟨v, hv, hr⟩ := (q1.mono e).get hd'
    refine ⟨⟨vs, v, q3 _ _ _ _ e s' ok', hv⟩, fun x H2 y => ?_⟩
    obtain ⟨rfl, y⟩ := y
    have := y vs (q3 _ _ _ _ e s' ok')
    rw [hv] at this; cases this
    exact ⟨F', .refl, s', hr⟩
  | false =>
    rw [hd] at hq
    obtain ⟨ad, rfl, q2, q3⟩ := seq_lst hq s ok
    refine ⟨ad, rfl, .inr ⟨q2, Run.ret (rel := relI G) r2 s fun m' F' S' H' e s' ok' => ?_⟩⟩
    obtain ⟨ws, w1, w2⟩ := q3 _ _ _ _ e s' ok'
    refine ⟨fun i hi => ⟨ws, w1, by rw [← w2.length]; exact hi⟩, fun i d' hd' => ?_⟩
    obtain ⟨v, hv, hr⟩ := w2.get hd'
    refine ⟨⟨ws, v, w1, hv⟩, fun x H2 y => ?_⟩
    obtain ⟨rfl, y⟩ := y
    have := y ws w1
    rw [hv] at this; cases this
    exact ⟨F', .refl, s', hr⟩

theorem rngL_length (i j : Int) : (rngL i j).length = (j - i).toNat := by simp [rngL]
theorem rngL_get {i j : Int} {n : Nat} {d : D} (h : (rngL i j)[n]? = some d) : n < (j - i).toNat ∧ d = .int (i + (n : Nat)) := by
  unfold rngL at h
  rw [List.getElem?_map] at h
  cases e : (List.range (j - i).toNat)[n]? with
  | none => rw [e] at h; cases h
  | some q =>
    rw [e] at h; cases h
    obtain ⟨h1, h2⟩ := List.getElem?_eq_some_iff.mp e
    simp at h1 h2
    exact ⟨by omega, by rw [h2]⟩
theorem relI_range {m : List Addr} {F : Hp} (i j : Int) : relI G m F ⟨rngL i j, .non⟩ (Itr i (j - i).toNat) := fun m' F' S' H' e s' _ =>
  ⟨fun n hn => by rw [rngL_length] at hn; exact hn, fun n d hd => by
    obtain ⟨h1, h2⟩ := rngL_get hd
    refine ⟨h1, fun x H2 y => ?_⟩
    obtain ⟨rfl, rfl⟩ := y
    exact ⟨F', .refl, s', h2 ▸ rfl⟩⟩
theorem ta_one {γ δ : Type} {rel : List Addr → Hp → γ → δ → Prop} {g : D → M γ} {σ : St} {H : Hp} {Q : δ → Hp → Prop} (h : tM G W rel (fun ρ => .bind (fa ρ) g) σ H Q) :
    tA G W (aCons fa aNil) σ H fun vs H' => ∃ v m F S d, vs = [v] ∧ Sim G m F S H' ∧ relD G m F d v ∧ Run G W σ rel (g d) m F S Q := by
  have e : (fun ρ => M.bind (fa ρ) g) = fun ρ => M.bind (aCons fa aNil ρ) fun ds => match ds with | [d] => g d | _ => .stuck := by
    funext ρ
    simp only [aCons, aNil, M.bind_assoc, M.ret_bind]
  rw [e] at h
  refine (tM.bind h).imp fun vs H' ⟨m, F, ρ, S, ds, s, _, hx, r⟩ => ?_
  cases ds with
  | nil => exact (Run.stuck (α := γ) (rel := rel) r).elim
  | cons d ds =>
    cases ds with
    | nil =>
      obtain ⟨v, r', rfl, h1, h2⟩ := hx
      obtain rfl : r' = [] := h2
      exact ⟨v, m, F, S, d, rfl, s, h1, r⟩
    | cons _ _ => exact (Run.stuck (α := γ) (rel := rel) r).elim
theorem ta_two {γ δ : Type} {rel : List Addr → Hp → γ → δ → Prop} {g : D → D → M γ} {σ : St} {H : Hp} {Q : δ → Hp → Prop} (h : tM G W rel (fun ρ => .bind (fa ρ) fun x => .bind (fb ρ) fun y => g x y) σ H Q) :
    tA G W (aCons fa (aCons fb aNil)) σ H fun vs H' => ∃ v w m F S d e, vs = [v, w] ∧ Sim G m F S H' ∧ relD G m F d v ∧ relD G m F e w ∧ Run G W σ rel (g d e) m F S Q := by
  have e : (fun ρ => M.bind (fa ρ) fun x => .bind (fb ρ) fun y => g x y) = fun ρ => M.bind (aCons fa (aCons fb aNil) ρ) fun ds => match ds with | [d, e] => g d e | _ => .stuck := by
    funext ρ
    simp only [aCons, aNil, M.bind_assoc, M.ret_bind]
  rw [e] at h
  refine (tM.bind h).imp fun vs H' ⟨m, F, ρ, S, ds, s, _, hx, r⟩ => ?_
  match ds, hx, r with
  | [], _, r => exact (Run.stuck (α := γ) (rel := rel) r).elim
  | [_], _, r => exact (Run.stuck (α := γ) (rel := rel) r).elim
  | [d, e], hx, r =>
    obtain ⟨v, r', rfl, h1, w, r2, rfl, h2, h3⟩ := hx
    obtain rfl : r2 = [] := h3
    exact ⟨v, w, m, F, S, d, e, rfl, s, h1, h2, r⟩
  | _ :: _ :: _ :: _, _, r => exact (Run.stuck (α := γ) (rel := rel) r).elim
theorem si_rng1 {p : Pos} (hg : Gl X "range") (hm : X.mg "range" = none) (ha : SE X G W a fa) (hs : noStar a = true) : SI X G W tg (.Call (.Name "range" p) [a] [] pos) (iRng1 fa) := by
  refine PIimp (pi_range1 hg hm (sa_one ha hs) (by rw [starEach_one hs]; rfl)) fun σ H R h => ?_
  refine (ta_one h).imp fun vs H1 ⟨v, m, F, S, d, ev, s, hx, r⟩ => ?_
  cases d with
  | int j =>
    cases hx
    obtain ⟨⟨h1, h2⟩, r⟩ := Run.guard (x := M.ret (Itm.mk (rngL 0 j) .non)) r
    refine ⟨j, ev, h1, h2, r.ret s ?_⟩
    have := relI_range (G := G) (m := m) (F := F) 0 j
    rw [Int.sub_zero] at this
    exact this
  | _ => exact (Run.stuck (α := Itm) (rel := relI G) r).elim
theorem si_rng2 {p : Pos} (hg : Gl X "range") (hm : X.mg "range" = none) (ha : SE X G W a fa) (hb : SE X G W b fb) (hs : noStar a = true) (hs2 : noStar b = true) : SI X G W tg (.Call (.Name "range" p) [a, b] [] pos) (iRng2 fa fb) := by
  refine PIimp (pi_range2 hg hm (sa_cons ha (sa_one hb hs2) (starEach_one hs)) (by rw [starEach_one hs, starEach_one hs2]; rfl) (by rw [starEach_one hs2]; rfl)) fun σ H R h => ?_
  refine (ta_two h).imp fun vs H1 ⟨v, w, m, F, S, d, e, ev, s, hx, hy, r⟩ => ?_
  cases d with
  | int i =>
    cases e with
    | int j =>
      cases hx; cases hy
      obtain ⟨⟨⟨h1, h2⟩, h3, h4⟩, r⟩ := Run.guard (x := M.ret (Itm.mk (rngL i j) .non)) r
      exact ⟨i, j, ev, ⟨h1, h2, h3, h4⟩, r.ret s (relI_range i j)⟩
    | _ => exact (Run.stuck (α := Itm) (rel := relI G) r).elim
  | _ => cases e <;> exact (Run.stuck (α := Itm) (rel := relI G) r).elim

/-! ### enumerate, zip: new pairs -/
theorem zipL_get {xs ys : List D} {i : Nat} {d : D} (h : (zipL xs ys)[i]? = some d) : ∃ x y, xs[i]? = some x ∧ ys[i]? = some y ∧ d = .tup [x, y] := by
  unfold zipL at h
  rw [List.getElem?_map] at h
  cases e : (xs.zip ys)[i]? with
  | none => rw [e] at h; cases h
  | some p =>
    rw [e] at h; cases h
    rw [List.getElem?_zip_eq_some] at e
    exact ⟨p.1, p.2, e.1, e.2, rfl⟩
theorem zipL_length (xs ys : List D) : (zipL xs ys).length = min xs.length ys.length := by simp [zipL]
theorem enumL_get {xs : List D} {i : Nat} {d : D} (h : (enumL xs)[i]? = some d) : ∃ x, xs[i]? = some x ∧ d = .tup [.int (i : Nat), x] := by
  unfold enumL at h
  rw [List.getElem?_map, List.getElem?_zipIdx] at h
  cases e : xs[i]? with
  | none => rw [e] at h; cases h
  | some p => rw [e] at h; cases h; exact ⟨p, rfl, by simp⟩
theorem enumL_length (xs : List D) : (enumL xs).length = xs.length := by simp [enumL]
/-- a new pair is frozen -/
theorem new_pair {m : List Addr} {F : Hp} {S : Store} {H : Hp} (s : Sim G m F S H) {T : Addr} {x y : V} {d e : D} (hT : H T = none) (hx : relD G m F d x) (hy : relD G m F e y) : ∃ F2, Ext m F m F2 ∧ Sim G m F2 S (upd H T (.tup [x, y])) ∧ relD G m F2 (.tup [d, e]) (.ref T) := by
  obtain ⟨s2, e2⟩ := s.newF (o := .tup [x, y]) hT
  exact ⟨_, e2, s2, T, [x, y], rfl, .inl upd_same, .cons (hx.mono e2) (.cons (hy.mono e2) relDs.nil)⟩
theorem si_zip {p tpos : Pos} {elts : List Expr} {kk : Nat} (hK : X.K = G.K) (hg : Gl X "zip") (hm : X.mg "zip" = none) (ha : SE X G W a fa) (hb : SE X G W b fb) (hs : noStar a = true) (hs2 : noStar b = true) : SI X G W (.Tuple elts kk tpos) (.Call (.Name "zip" p) [a, b] [] pos) (iZip fa fb) := by
  refine PIimp (MPZ.pi_zipM hg hm (sa_cons ha (sa_one hb hs2) (starEach_one hs)) (starEach_one hs) (noStar_any (by simp [hs2]))) fun σ H R h => ?_
  refine (ta_two h).imp fun vs H1 ⟨v, w, m, F, S, d, e, ev, s, hx, hy, r⟩ => ?_
  obtain ⟨ds, src, q1, ok1, r⟩ := seq_run r s hx
  obtain ⟨es, src2, q2, ok2, r⟩ := seq_run r s hy
  rw [hK]
  have key : ∀ (Sq Sr : PySem.W.Frag → Hp → Addr → List V → Prop) (ad bd : Addr), (∀ m' F' S' H', Ext m F m' F' → Sim G m' F' S' H' → src.ok S' → ∃ vs, Sq G.K H' ad vs ∧ relDs G m' F' ds vs) →
      (∀ m' F' S' H', Ext m F m' F' → Sim G m' F' S' H' → src2.ok S' → ∃ ws, Sr G.K H' bd ws ∧ relDs G m' F' es ws) → ∀ (J : It), J = MPZ.ItM Sq Sr G.K ad bd → R J H1 := by
    intro Sq Sr ad bd f1 f2 J hJ
    subst hJ
    refine Run.ret (rel := relI G) r s fun m' F' S' H' e' s' ok' => ?_
    obtain ⟨vs1, a4, a5⟩ := f1 _ _ _ _ e' s' ok'.1
    obtain ⟨ws1, b4, b5⟩ := f2 _ _ _ _ e' s' ok'.2
    refine ⟨fun i hi => ?_, fun i d' hd' => ?_⟩
    · have hi : (zipL ds es).length ≤ i := hi
      rw [zipL_length] at hi
      exact ⟨vs1, ws1, a4, b4, by rw [← a5.length, ← b5.length]; omega⟩
    · obtain ⟨x, y, z1, z2, rfl⟩ := zipL_get hd'
      obtain ⟨v1, v2, v3⟩ := a5.get z1
      obtain ⟨w1, w2, w3⟩ := b5.get z2
      refine ⟨⟨vs1, ws1, v1, w1, a4, b4, v2, w2⟩, fun x' H2 yy => ?_⟩
      obtain ⟨T, x2, y2, rfl, hT, rfl, g1, g2⟩ := yy
      have k1 := g1 _ a4
      have k2 := g2 _ b4
      rw [v2] at k1; cases k1
      rw [w2] at k2; cases k2
      exact new_pair s' hT v3 w3
  cases hd : isTupD d with
  | true =>
    rw [hd] at q1
    obtain ⟨ad, vs1, rfl, a1, a2, a3⟩ := seq_tup q1 s ok1
    have f1 : ∀ m' F' S' H', Ext m F m' F' → Sim G m' F' S' H' → src.ok S' → ∃ vs, SqT G.K H' ad vs ∧ relDs G m' F' ds vs := fun m' F' S' H' e' s' ok' => ⟨vs1, a3 _ _ _ _ e' s' ok', a1.mono e'⟩
    cases he : isTupD e with
    | true =>
      rw [he] at q2
      obtain ⟨bd, ws1, rfl, b1, b2, b3⟩ := seq_tup q2 s ok2
      exact ⟨ad, bd, vs1, ws1, ev, .inr (.inl ⟨a2, b2, key SqT SqT ad bd f1 (fun m' F' S' H' e' s' ok' => ⟨ws1, b3 _ _ _ _ e' s' ok', b1.mono e'⟩) _ rfl⟩)⟩
    | false =>
      rw [he] at q2
      obtain ⟨bd, rfl, ⟨ws0, b2⟩, b3⟩ := seq_lst q2 s ok2
      exact ⟨ad, bd, vs1, ws0, ev, .inr (.inr (.inr ⟨a2, b2, key SqT SqL ad bd f1 b3 _ rfl⟩))⟩
  | false =>
    rw [hd] at q1
    obtain ⟨ad, rfl, ⟨vs0, a2⟩, a3⟩ := seq_lst q1 s ok1
    cases he : isTupD e with
    | true =>
      rw [he] at q2
      obtain ⟨bd, ws1, rfl, b1, b2, b3⟩ := seq_tup q2 s ok2
      exact ⟨ad, bd, vs0, ws1, ev, .inr (.inr (.inl ⟨a2, b2, key SqL SqT ad bd a3 (fun m' F' S' H' e' s' ok' => ⟨ws1, b3 _ _ _ _ e' s' ok', b1.mono e'⟩) _ rfl⟩))⟩
    | false =>
      rw [he] at q2
      obtain ⟨bd, rfl, ⟨ws0, b2⟩, b3⟩ := seq_lst q2 s ok2
      exact ⟨ad, bd, vs0, ws0, ev, .inl ⟨a2, b2, key SqL SqL ad bd a3 b3 _ rfl⟩⟩
/-- enumerate over a list or a tuple -/
def iEnA (K : PySem.W.Frag) (tl : TA) : TI := fun σ H R => tl σ H fun vs H1 => ∃ a, vs = [.ref a] ∧ ((∃ xs, SqT K H1 a xs ∧ R (MPE.IteT K a xs) H1) ∨ ((∃ xs, SqL K H1 a xs) ∧ R (Ite K a) H1))
theorem pi_enA {e : Expr} {ta : TA} {p tpos : Pos} {elts : List Expr} {kk : Nat} (hg : Gl X "enumerate") (hm : X.mg "enumerate" = none) (ha : PA X [e] ta) (hs : starEach [e] X.env = [(false, eval e X.env)]) :
    PI X (.Tuple elts kk tpos) (.Call (.Name "enumerate" p) [e] [] pos) (iEnA X.K ta) := by
  refine ⟨fun pins s σ H R I h => ?_⟩
  refine Call_ (ld_blt I hg hm boot_enumerate (PyProof.Rows.callWith_type1 (thn (ha.run pos pins s σ H _ I h) fun us s1 ⟨vs, H1, I1, r1, q1⟩ => ?_) hs rfl))
  obtain ⟨a, ex, q1⟩ := q1
  subst ex
  cases r1 with
  | cons r rr =>
    cases rr
    cases r
    have fresh : ∀ b ∈ [s1.heap.objs.size + 1, s1.heap.objs.size], FpOk X pins H1 b := fun b hb => by
      have e' : b = s1.heap.objs.size + 1 ∨ b = s1.heap.objs.size := by simpa using hb
      have hle : s1.heap.objs.size ≤ b := by
        rcases e' with z | z
        · rw [z]; exact Nat.le_add_right _ _
        · rw [z]; exact Nat.le_refl _
      exact I1.fpOk hle (I1.hok.fresh hle)
    rcases q1 with ⟨xs, hq, q⟩ | ⟨⟨xs, hq⟩, q⟩
    · obtain ⟨its, rv, p', hz⟩ := I1.tuple hq
      obtain ⟨o1, ho1, _⟩ := id p'
      have hlt := Heap.lt_size ho1
      refine MPE.call_enumerate_tuple (show s1.heap.IsTuple a its.toArray from p') fun h' he hit hsz hk => wpAny_pyIter_enum he ?_
      have I2 : Inv X pins σ H1 { s1 with heap := h' } := I1.kept (t' := s1.toks) hk
      exact ⟨s1.heap.objs.size + 1, [s1.heap.objs.size + 1, s1.heap.objs.size], _, _, H1, rfl, I2, MPE.turn_enumT a (s1.heap.objs.size + 1) s1.heap.objs.size xs, ⟨⟨.none, he⟩, hit, Nat.succ_ne_self _, Nat.ne_of_lt hlt, Nat.ne_of_lt (Nat.lt_succ_of_lt hlt), Nat.zero_le _⟩, fresh, q⟩
    · obtain ⟨its, rv, p', hz⟩ := I1.list hq
      refine call_enumerate_list p'.isList fun h' he hit hsz hk => wpAny_pyIter_enum he ?_
      have I2 : Inv X pins σ H1 { s1 with heap := h' } := I1.kept (t' := s1.toks) hk
      exact ⟨s1.heap.objs.size + 1, [s1.heap.objs.size + 1, s1.heap.objs.size], _, _, H1, rfl, I2, turn_enum a (s1.heap.objs.size + 1) s1.heap.objs.size, ⟨⟨.none, he⟩, hit, Nat.succ_ne_self _⟩, fresh, q⟩
theorem si_enum {p tpos : Pos} {elts : List Expr} {kk : Nat} (hK : X.K = G.K) (hg : Gl X "enumerate") (hm : X.mg "enumerate" = none) (ha : SE X G W a fa) (hs : noStar a = true) : SI X G W (.Tuple elts kk tpos) (.Call (.Name "enumerate" p) [a] [] pos) (iEnum' fa) := by
  refine PIimp (pi_enA hg hm (sa_one ha hs) (by rw [starEach_one hs]; rfl)) fun σ H R h => ?_
  refine (ta_one h).imp fun vs H1 ⟨v, m, F, S, d, ev, s, hx, r⟩ => ?_
  obtain ⟨ds, src, q1, ok1, r⟩ := seq_run r s hx
  rw [hK]
  cases hd : isTupD d with
  | true =>
    rw [hd] at q1
    obtain ⟨ad, vs1, rfl, a1, a2, a3⟩ := seq_tup q1 s ok1
    refine ⟨ad, ev, .inl ⟨vs1, a2, Run.ret (rel := relI G) r s fun m' F' S' H' e' s' ok' => ⟨fun i hi => ⟨a3 _ _ _ _ e' s' ok', ?_⟩, fun i d' hd' => ?_⟩⟩⟩
    · have hi : (enumL ds).length ≤ i := hi
      rw [enumL_length] at hi
      rw [← a1.length]; exact hi
    · obtain ⟨x, z1, rfl⟩ := enumL_get hd'
      obtain ⟨v1, v2, v3⟩ := (a1.mono e').get z1
      refine ⟨⟨v1, a3 _ _ _ _ e' s' ok', v2⟩, fun x' H2 yy => ?_⟩
      obtain ⟨T, x2, rfl, hT, rfl, g1⟩ := yy
      rw [v2] at g1; cases g1
      exact new_pair s' hT rfl v3
  | false =>
    rw [hd] at q1
    obtain ⟨ad, rfl, q0, a3⟩ := seq_lst q1 s ok1
    refine ⟨ad, ev, .inr ⟨q0, Run.ret (rel := relI G) r s fun m' F' S' H' e' s' ok' => ?_⟩⟩
    obtain ⟨vs1, a4, a5⟩ := a3 _ _ _ _ e' s' ok'
    refine ⟨fun i hi => ⟨vs1, a4, ?_⟩, fun i d' hd' => ?_⟩
    · have hi : (enumL ds).length ≤ i := hi
      rw [enumL_length] at hi
      rw [← a5.length]; exact hi
    · obtain ⟨x, z1, rfl⟩ := enumL_get hd'
      obtain ⟨v1, v2, v3⟩ := a5.get z1
      refine ⟨⟨vs1, v1, a4, v2⟩, fun x' H2 yy => ?_⟩
      obtain ⟨T, x2, rfl, hT, rfl, g1⟩ := yy
      have k1 := g1 _ a4
      rw [v2] at k1; cases k1
      exact new_pair s' hT rfl v3
end
end MP

/-! MPK: list comprehensions. -/
namespace MP
open PySem PySem.Spec PyProof.Rows L2

open Classical in
/-- the turns of a comprehension whose list stands at the cell r -/
noncomputable def compGo (r : Nat) (src : Src) (tg : Tg) (cond : Tv) (elt : Ev) (ρ0 : En) : List D → Store → Option (R D)
  | [], S => if src.ok S then some (.ok (.ref r) S) else none
  | d :: ds, S => if src.ok S then
      (match tg.asg d ρ0 with
      | none => none
      | some ρ1 => (match cond ρ1 S with
        | some (.ok false S2) => compGo r src tg cond elt ρ0 ds S2
        | some (.ok true S2) => (match elt ρ1 S2 with
          | some (.ok y S3) => (match S3[r]? with
            | some (.lst acc) => if acc.length < sizeLine then compGo r src tg cond elt ρ0 ds (S3.set r (.lst (acc ++ [y]))) else none
            | _ => none)
          | _ => none)
        | _ => none))
    else none
def tTrue : Tv := fun _ => .ret true
noncomputable def eComp (own : List Nat) (it : Iv) (tg : Tg) (cond : Tv) (elt : Ev) : Ev := fun ρ => .bind (it ρ) fun itm => fun S =>
  compGo S.length itm.src tg cond elt (own.foldr (fun i ρ => ρ.set i none) ρ) itm.items (S ++ [.lst []])

/-- nothing is wished of exceptions -/
abbrev W0 : WX := fun _ _ _ _ => False
section
variable {Γ : Pg} {X : Cx} {G : GW} {W : WX} {C : Calls} {a b c e tg iter elt : Expr} {pos : Pos} {fa fb : Ev} {k : Nat}
theorem relE.wipe {m : List Addr} {F : Hp} {ρ : En} {σ : St} (r : relE G m F ρ σ) : ∀ (vs : List Nat), relE G m F (vs.foldr (fun i ρ => ρ.set i none) ρ) (wipe σ vs)
  | [] => r
  | v :: vs => by
    have ih := relE.wipe r vs
    refine ⟨by unfold L2.wipe; simp only [List.foldr_cons, List.length_set]; exact ih.len, fun i d h => ?_⟩
    simp only [List.foldr_cons] at h
    by_cases hi : v = i
    · subst hi
      have hl : v < (vs.foldr (fun i ρ => ρ.set i none) ρ).length := by have := (List.getElem?_eq_some_iff.mp h).1; simpa using this
      rw [List.getElem?_set_self hl] at h; cases h
    · rw [List.getElem?_set_ne hi] at h
      unfold L2.wipe
      rw [List.getElem?_set_ne hi]
      exact ih.get i d h
theorem wipe_in {σ : St} {i : Nat} : ∀ {vs : List Nat}, i ∈ vs → i < σ.length → (wipe σ vs)[i]? = some none
  | [], h, _ => by cases h
  | v :: vs, h, hl => by
    unfold wipe
    by_cases hi : v = i
    · subst hi
      rw [List.getElem?_set_self (by rw [wipe_length]; exact hl)]
    · rw [List.getElem?_set_ne hi]
      exact wipe_in (by rcases List.mem_cons.mp h with e | h; exact absurd e.symm hi; exact h) hl
theorem wipe_again {σ σ2 : St} {vs ts : List Nat} (hl : σ2.length = σ.length) (hs : ∀ i, i ∈ ts → i ∈ vs) (h : ∀ i, i ∉ ts → σ2[i]? = (wipe σ vs)[i]?) : wipe σ2 vs = wipe σ vs := by
  apply List.ext_getElem?
  intro i
  by_cases hi : i ∈ vs
  · by_cases hi2 : i < σ.length
    · rw [wipe_in hi (by omega), wipe_in hi hi2]
    · rw [List.getElem?_eq_none (by rw [wipe_length]; omega), List.getElem?_eq_none (by rw [wipe_length]; omega)]
  · rw [wipe_out hi, h i (fun z => hi (hs i z))]
/-- a run that ends well, whatever is wished of exceptions -/
theorem run_of {α β : Type} {rel : List Addr → Hp → α → β → Prop} {x : M α} {σ : St} {m : List Addr} {F : Hp} {S S' : Store} {y : α} {Q : β → Hp → Prop} (e : x S = some (.ok y S')) (q : ∀ m' F' H' b, Ext m F m' F' → Sim G m' F' S' H' → rel m' F' y b → Q b H') : Run G W σ rel x m F S Q := ⟨_, e, q⟩
theorem asg_length {t : Tg} {d : D} {ρ ρ' : En} (h : t.asg d ρ = some ρ') : ρ'.length = ρ.length := by
  cases t with
  | one i => cases h; simp
  | many is =>
    cases d with
    | tup ds =>
      have e' : (if ds.length = is.length then some (setAll ρ is ds) else none) = some ρ' := h
      split at e'
      · cases e'; exact setAll_length
      · cases e'
    | _ => cases h
theorem comp_red (g : GX X G W k) {f : Iv} {t : Tg} {fc : Tv} {fe : Ev} {own : List Nat} (hsub : ∀ i, i ∈ t.slots → i ∈ own) {σ : St} {H : Hp} {Q : VK} (h : tE G W (eComp own f t fc fe) σ H Q) :
    tLc (tM G W (relI G) f) (t.g X.K) (tT G W0 fc) (tE G W0 fe) own σ H Q := by
  refine (tM.bind h).imp fun J H1 ⟨m, F, ρ, S, itm, s, hρ, hI, r⟩ => ?_
  intro Dn hD
  obtain ⟨rr, hr, hq⟩ := r
  generalize hρ0 : own.foldr (fun i (ρ : En) => ρ.set i none) ρ = ρ0 at hr
  have hρw : relE G m F ρ0 (wipe σ own) := by rw [← hρ0]; exact hρ.wipe _
  obtain ⟨s0, e0⟩ := s.newC (c := .lst []) (o := .lst []) hD ⟨[], rfl, rfl⟩
  refine ⟨fun i n H' => n = itm.items.length - i ∧ i ≤ itm.items.length ∧ ∃ m' F' S', Ext (m ++ [Dn]) F m' F' ∧ Sim G m' F' S' H' ∧ compGo S.length itm.src t fc fe ρ0 (itm.items.drop i) S' = some rr, ⟨itm.items.length, by simp, Nat.zero_le _, _, F, _, .refl, s0, by simpa using hr⟩, ?_⟩
  rintro i n H' ⟨rfl, hi2, m', F', S', e1, s1, hgo⟩
  have eA := e0.trans e1
  have hDm : m'[S.length]? = some Dn := e1.pre _ _ (by rw [← s.len]; simp)
  by_cases hlt : i < itm.items.length
  · have hdrop : itm.items.drop i = itm.items[i] :: itm.items.drop (i + 1) := (List.getElem_cons_drop hlt).symm
    rw [hdrop] at hgo
    unfold compGo at hgo
    split at hgo
    case isFalse => cases hgo
    rename_i hok
    obtain ⟨_, hy⟩ := hI m' F' S' H' eA s1 hok
    obtain ⟨hgo1, hyl⟩ := hy i _ (List.getElem?_eq_getElem hlt)
    refine .inr ⟨hgo1, fun H'' => (i + 1 ≤ itm.items.length ∧ ∃ m' F' S', Ext (m ++ [Dn]) F m' F' ∧ Sim G m' F' S' H'' ∧ compGo S.length itm.src t fc fe ρ0 (itm.items.drop (i + 1)) S' = some rr), fun H'' hN => ⟨itm.items.length - (i + 1), by omega, rfl, hN⟩, fun x H2 hyx => ?_⟩
    obtain ⟨F2, e2, s2, hx⟩ := hyl x H2 hyx
    split at hgo
    · cases hgo
    · rename_i ρ1 hasg
      rw [g.hK]
      have eB := eA.trans e2
      refine Tg.g_ok s2 (hρw.mono eB) hx hasg fun σ2 hσ2 hne => ⟨?_, ?_⟩
      · have hl2 : σ2.length = σ.length := by rw [← hσ2.len, asg_length hasg, hρw.len, wipe_length]
        exact wipe_again hl2 hsub hne
      · split at hgo
        · rename_i S2 hc
          refine ⟨m', F2, ρ1, S', s2, hσ2, run_of hc fun m3 F3 H3 b e3 s3 hb => ?_⟩
          cases hb
          simp only [Bool.false_eq_true, if_false]
          exact ⟨hlt, m3, F3, S2, (e1.trans e2).trans e3, s3, hgo⟩
        · rename_i S2 hc
          refine ⟨m', F2, ρ1, S', s2, hσ2, run_of hc fun m3 F3 H3 b e3 s3 hb => ?_⟩
          cases hb
          simp only [if_true]
          split at hgo
          · rename_i y S3 hy2
            refine ⟨m3, F3, ρ1, S2, s3, hσ2.mono e3, run_of hy2 fun m4 F4 H4 v e4 s4 hv => ?_⟩
            have eC := ((e1.trans e2).trans e3).trans e4
            have hD4 : m4[S.length]? = some Dn := eC.pre _ _ (by rw [← s.len]; simp)
            split at hgo
            · rename_i acc hacc
              split at hgo
              · rename_i hlen
                obtain ⟨vs, hvs, hrel⟩ := s4.cel _ _ _ hD4 hacc
                refine ⟨vs, hvs, by rw [← hrel.length]; exact hlen, hlt, m4, F4, _, eC, s4.write (c := .lst (acc ++ [y])) hD4 ⟨vs ++ [v], rfl, hrel.append (.cons hv relDs.nil)⟩, hgo⟩
              · cases hgo
            · cases hgo
          · cases hgo
        · cases hgo
  · have e : i = itm.items.length := by omega
    subst e
    rw [List.drop_length] at hgo
    unfold compGo at hgo
    split at hgo
    · rename_i hok
      cases hgo
      obtain ⟨hst, _⟩ := hI m' F' S' H' eA s1 hok
      exact .inl ⟨hst _ (Nat.le_refl _), hq m' F' H' _ eA s1 ⟨Dn, rfl, hDm⟩⟩
    · cases hgo
theorem se_comp (g : GX X G W k) {f : Iv} {t : Tg} {fc : Tv} {fe : Ev} {ifs : List Expr} {scope : Scope} {own : List (Str × Nat)} (hi : SI X G W tg iter f) (ok : BlkOk X.N X.env.scope scope own)
    (hg : ∀ (s : Shared) (H : Hp) (C : Addr) (cl : List (Str × Addr)) (fp : List Addr), SG (X.blk s H scope (compEnvC scope cl C X.env) fp) tg t)
    (ht : ∀ (s : Shared) (H : Hp) (C : Addr) (cl : List (Str × Addr)) (fp : List Addr), PTs (X.blk s H scope (compEnvC scope cl C X.env) fp) ifs (tT G W0 fc))
    (he : ∀ (s : Shared) (H : Hp) (C : Addr) (cl : List (Str × Addr)) (fp : List Addr), SE (X.blk s H scope (compEnvC scope cl C X.env) fp) G W0 elt fe) (hs : ∀ x, foldedSetIterable iter X.env x = pure x) (hsub : ∀ i, i ∈ t.slots → i ∈ own.map (·.2)) :
    SE X G W (.ListComp elt [⟨tg, iter, ifs, 0⟩] scope pos) (eComp (own.map (·.2)) f t fc fe) :=
  PEimp (pe_lc g.calm g.nd hi ok (g := t.g X.K) hg ht he hs) fun σ H Q h => comp_red g hsub h
end
end MP

/-! MPL: statements. -/
namespace MP
open PySem PySem.Spec PyProof.Rows L2

/-- a value first, then the rest -/
def sBind {α : Type} (x : En → M α) (k : α → Sv) : Sv := fun ρ S => match x ρ S with
  | some (.ok a S') => k a ρ S'
  | some (.ex e S') => some (.ex e ρ S')
  | none => none
def sNx : Sv := fun ρ S => some (.nx ρ S)
def sBk : Sv := fun ρ S => some (.bk ρ S)
def sCt : Sv := fun ρ S => some (.ct ρ S)
def sRt (d : D) : Sv := fun _ S => some (.rt d S)
def sStuck : Sv := fun _ _ => none
def sSeq (f g : Sv) : Sv := fun ρ S => match f ρ S with
  | some (.nx ρ' S') => g ρ' S'
  | r => r
def sRet (e : Ev) : Sv := sBind e sRt
def sDrop (e : Ev) : Sv := sBind e fun _ => sNx
def sIf (t : Tv) (f g : Sv) : Sv := sBind t fun b => if b then f else g
def optS (f : En → Option En) : Sv := fun ρ S => match f ρ with
  | some ρ' => some (.nx ρ' S)
  | none => none
/-- what a target does with a value -/
abbrev Gv := D → Sv
def sAsg (g : Gv) (e : Ev) : Sv := sBind e g
def gOne (i : Nat) : Gv := fun d => optS fun ρ => some (ρ.set i (some d))
def gAll : List Gv → List D → Sv
  | [], [] => sNx
  | g :: gs, d :: ds => sSeq (g d) (gAll gs ds)
  | _, _ => sStuck
def gTupG (gs : List Gv) : Gv := fun d => match d with
  | .tup ds => if ds.length = gs.length then gAll gs ds else sStuck
  | .flst ds => if ds.length = gs.length then gAll gs ds else sStuck
  | .ref r => fun ρ S => match S[r]? with
    | some (.lst ds) => if ds.length = gs.length then gAll gs ds ρ S else none
    | _ => none
  | _ => sStuck
def sPar (is : List Nat) (a : Av) : Sv := sBind a fun ds => optS fun ρ => if ds.length = is.length then some (setAll ρ is ds) else none
/-- a turn of a loop, then the next turns -/
def turnS (b : Sv) (k : Sv) : Sv := fun ρ S => match b ρ S with
  | some (.nx ρ' S') => k ρ' S'
  | some (.ct ρ' S') => k ρ' S'
  | some (.bk ρ' S') => some (.nx ρ' S')
  | r => r
def whileN (t : Tv) (b : Sv) : Nat → Sv
  | 0 => sStuck
  | n + 1 => sBind t fun c => if c then turnS b (whileN t b n) else sNx
open Classical in
noncomputable def sWhile (t : Tv) (b : Sv) : Sv := fun ρ S => if h : ∃ n, (whileN t b n ρ S).isSome then whileN t b h.choose ρ S else none
open Classical in
noncomputable def forGo (src : Src) (tg : Tg) (b : Sv) : List D → Sv
  | [] => fun ρ S => if src.ok S then some (.nx ρ S) else none
  | d :: ds => fun ρ S => if src.ok S then sSeq (optS (tg.asg d)) (turnS b (forGo src tg b ds)) ρ S else none
noncomputable def sFor (it : Iv) (tg : Tg) (b : Sv) : Sv := sBind it fun itm => forGo itm.src tg b itm.items
theorem whileN_mono {t : Tv} {b : Sv} : ∀ {n : Nat} {ρ : En} {S : Store} {r : RS}, whileN t b n ρ S = some r → ∀ m, n ≤ m → whileN t b m ρ S = some r
  | 0, ρ, S, r, h, _, _ => by cases h
  | n + 1, ρ, S, r, h, 0, hm => by omega
  | n + 1, ρ, S, r, h, m + 1, hm => by
    unfold whileN sBind at h ⊢
    cases e : t ρ S with
    | none => rw [e] at h; cases h
    | some q =>
      rw [e] at h
      cases q with
      | ex x S' => exact h
      | ok c S' =>
        simp only at h ⊢
        cases c with
        | false => exact h
        | true =>
          simp only [if_true] at h ⊢
          unfold turnS at h ⊢
          cases e2 : b ρ S' with
          | none => rw [e2] at h; cases h
          | some q =>
            rw [e2] at h
            cases q with
            | nx ρ' S2 => exact whileN_mono (n := n) h m (by omega)
            | ct ρ' S2 => exact whileN_mono (n := n) h m (by omega)
            | bk ρ' S2 => exact h
            | rt d S2 => exact h
            | ex x ρ' S2 => exact h
theorem sWhile_of {t : Tv} {b : Sv} {n : Nat} {ρ : En} {S : Store} {r : RS} (h : whileN t b n ρ S = some r) : sWhile t b ρ S = some r := by
  have hx : ∃ n, (whileN t b n ρ S).isSome := ⟨n, by rw [h]; rfl⟩
  unfold sWhile
  rw [dif_pos hx]
  cases e : whileN t b hx.choose ρ S with
  | none => have := hx.choose_spec; rw [e] at this; cases this
  | some q =>
    have h1 := whileN_mono e (max n hx.choose) (by omega)
    have h2 := whileN_mono h (max n hx.choose) (by omega)
    rw [h1] at h2; exact h2
theorem sWhile_some {t : Tv} {b : Sv} {ρ : En} {S : Store} {r : RS} (h : sWhile t b ρ S = some r) : ∃ n, whileN t b n ρ S = some r := by
  unfold sWhile at h
  split at h
  · exact ⟨_, h⟩
  · cases h
/-- a while's turn -/
theorem sWhile_step {t : Tv} {b : Sv} {ρ : En} {S : Store} {r : RS} (h : (sBind t fun c => if c then turnS b (sWhile t b) else sNx) ρ S = some r) : sWhile t b ρ S = some r := by
  unfold sBind at h
  cases e : t ρ S with
  | none => rw [e] at h; cases h
  | some q =>
    rw [e] at h
    cases q with
    | ex x S' => exact sWhile_of (n := 1) (by unfold whileN sBind; rw [e]; exact h)
    | ok c S' =>
      simp only at h
      cases c with
      | false => exact sWhile_of (n := 1) (by unfold whileN sBind; rw [e]; exact h)
      | true =>
        simp only [if_true] at h
        unfold turnS at h
        cases e2 : b ρ S' with
        | none => rw [e2] at h; cases h
        | some q =>
          rw [e2] at h
          cases q with
          | nx ρ' S2 =>
            obtain ⟨n, hn⟩ := sWhile_some h
            exact sWhile_of (n := n + 1) (by unfold whileN sBind; rw [e]; simp only [if_true]; unfold turnS; rw [e2]; exact hn)
          | ct ρ' S2 =>
            obtain ⟨n, hn⟩ := sWhile_some h
            exact sWhile_of (n := n + 1) (by unfold whileN sBind; rw [e]; simp only [if_true]; unfold turnS; rw [e2]; exact hn)
          | bk ρ' S2 => exact sWhile_of (n := 1) (by unfold whileN sBind; rw [e]; simp only [if_true]; unfold turnS; rw [e2]; exact h)
          | rt d S2 => exact sWhile_of (n := 1) (by unfold whileN sBind; rw [e]; simp only [if_true]; unfold turnS; rw [e2]; exact h)
          | ex x ρ' S2 => exact sWhile_of (n := 1) (by unfold whileN sBind; rw [e]; simp only [if_true]; unfold turnS; rw [e2]; exact h)

/-- a statement's end, and what is wished of it -/
def EndS (G : GW) (W : WX) (m : List Addr) (F : Hp) (D : Ends) : RS → Prop
  | .nx ρ S => ∀ m' F' H' σ', Ext m F m' F' → Sim G m' F' S H' → relE G m' F' ρ σ' → D.nx σ' H'
  | .bk ρ S => ∀ m' F' H' σ', Ext m F m' F' → Sim G m' F' S H' → relE G m' F' ρ σ' → D.bk σ' H'
  | .ct ρ S => ∀ m' F' H' σ', Ext m F m' F' → Sim G m' F' S H' → relE G m' F' ρ σ' → D.ct σ' H'
  | .rt d S => ∀ m' F' H' v, Ext m F m' F' → Sim G m' F' S H' → relD G m' F' d v → D.rt v H'
  | .ex e ρ S => ∀ m' F' H' σ' d ws, Ext m F m' F' → Sim G m' F' S H' → relE G m' F' ρ σ' → F' d = some (.xd ws) → e.fs.map (·.1) = ws.map (·.1) → relDs G m' F' (e.fs.map (·.2)) (ws.map (·.2)) → W (.ref (G.clA e.c)) (some d) σ' H'
def RunS (G : GW) (W : WX) (x : Option RS) (m : List Addr) (F : Hp) (D : Ends) : Prop := ∃ r, x = some r ∧ EndS G W m F D r
def tS (G : GW) (W : WX) (f : Sv) : TS := fun D σ H => ∃ m F ρ S, Sim G m F S H ∧ relE G m F ρ σ ∧ RunS G W (f ρ S) m F D
theorem EndS.mono {G : GW} {W : WX} {m m' : List Addr} {F F' : Hp} {D : Ends} (e : Ext m F m' F') : ∀ {r : RS}, EndS G W m F D r → EndS G W m' F' D r
  | .nx _ _, h => fun m2 F2 H2 σ2 e2 => h m2 F2 H2 σ2 (e.trans e2)
  | .bk _ _, h => fun m2 F2 H2 σ2 e2 => h m2 F2 H2 σ2 (e.trans e2)
  | .ct _ _, h => fun m2 F2 H2 σ2 e2 => h m2 F2 H2 σ2 (e.trans e2)
  | .rt _ _, h => fun m2 F2 H2 σ2 e2 => h m2 F2 H2 σ2 (e.trans e2)
  | .ex _ _ _, h => fun m2 F2 H2 σ2 d ws e2 => h m2 F2 H2 σ2 d ws (e.trans e2)
theorem RunS.mono {G : GW} {W : WX} {m m' : List Addr} {F F' : Hp} {D : Ends} {x : Option RS} (e : Ext m F m' F') (h : RunS G W x m F D) : RunS G W x m' F' D := let ⟨r, q, h⟩ := h; ⟨r, q, h.mono e⟩
theorem tS.bind {G : GW} {W : WX} {α β : Type} {rel : List Addr → Hp → α → β → Prop} {x : En → M α} {k : α → Sv} {D : Ends} {σ : St} {H : Hp} (h : tS G W (sBind x k) D σ H) :
    tM G W rel x σ H fun b H' => ∃ m F ρ S a, Sim G m F S H' ∧ relE G m F ρ σ ∧ rel m F a b ∧ RunS G W (k a ρ S) m F D := by
  obtain ⟨m, F, ρ, S, s, e, r, q, h⟩ := h
  refine ⟨m, F, ρ, S, s, e, ?_⟩
  unfold sBind at q
  cases ex : x ρ S with
  | none => rw [ex] at q; cases q
  | some r1 =>
    rw [ex] at q
    cases r1 with
    | ok a S' => exact ⟨_, ex, fun m' F' H' b e1 s1 r1 => ⟨m', F', ρ, S', a, s1, e.mono e1, r1, r, q, h.mono e1⟩⟩
    | ex y S' =>
      cases q
      exact ⟨_, ex, fun m' F' H' d ws e1 s1 hd h1 h2 => h m' F' H' σ d ws e1 s1 (e.mono e1) hd h1 h2⟩
theorem RunS.bind {G : GW} {W : WX} {α β : Type} {rel : List Addr → Hp → α → β → Prop} {x : En → M α} {k : α → Sv} {D : Ends} {σ : St} {m : List Addr} {F : Hp} {ρ : En} {S : Store} {H : Hp} (s : Sim G m F S H) (e : relE G m F ρ σ) (h : RunS G W (sBind x k ρ S) m F D) :
    Run G W σ rel (x ρ) m F S fun b H' => ∃ m' F' S' a, Ext m F m' F' ∧ Sim G m' F' S' H' ∧ relE G m' F' ρ σ ∧ rel m' F' a b ∧ RunS G W (k a ρ S') m' F' D := by
  obtain ⟨r, q, h⟩ := h
  unfold sBind at q
  cases ex : x ρ S with
  | none => rw [ex] at q; cases q
  | some r1 =>
    rw [ex] at q
    cases r1 with
    | ok a S' => exact ⟨_, ex, fun m' F' H' b e1 s1 r1 => ⟨m', F', S', a, e1, s1, e.mono e1, r1, r, q, h.mono e1⟩⟩
    | ex y S' =>
      cases q
      exact ⟨_, ex, fun m' F' H' d ws e1 s1 hd h1 h2 => h m' F' H' σ d ws e1 s1 (e.mono e1) hd h1 h2⟩

section
variable {Γ : Pg} {X : Cx} {G : GW} {W : WX} {C : Calls} {a b c e tg iter elt : Expr} {st : Stmt} {sts : List Stmt} {pos : Pos} {fa fb fe : Ev} {ft : Tv} {f g : Sv} {k : Nat}
abbrev SS (X : Cx) (G : GW) (W : WX) (st : Stmt) (f : Sv) : Prop := PS X st (tS G W f)
abbrev SSs (X : Cx) (G : GW) (W : WX) (st : List Stmt) (f : Sv) : Prop := PSs X st (tS G W f)
theorem tS.nx {D : Ends} {σ : St} {H : Hp} (h : tS G W sNx D σ H) : D.nx σ H := by
  obtain ⟨m, F, ρ, S, s, e, r, q, h⟩ := h
  cases q
  exact h m F H σ .refl s e
theorem RunS.nx {m : List Addr} {F : Hp} {ρ : En} {S : Store} {D : Ends} {σ : St} {H : Hp} (h : RunS G W (some (.nx ρ S)) m F D) (s : Sim G m F S H) (e : relE G m F ρ σ) : D.nx σ H := by
  obtain ⟨r, q, h⟩ := h
  cases q
  exact h m F H σ .refl s e
theorem sss_nil : SSs X G W [] sNx := PSsimp pss_nil fun D σ H h => h.nx
theorem ss_pass : SS X G W (.Pass pos) sNx := PSimp ps_pass fun D σ H h => h.nx
theorem ss_break : SS X G W (.Break pos) sBk := PSimp ps_break fun D σ H ⟨m, F, ρ, S, s, e, r, q, h⟩ => by
  cases q
  exact h m F H σ .refl s e
theorem ss_continue : SS X G W (.Continue pos) sCt := PSimp ps_continue fun D σ H ⟨m, F, ρ, S, s, e, r, q, h⟩ => by
  cases q
  exact h m F H σ .refl s e
theorem ss_doc {x j pos'} : SS X G W (.Expr (.Constant (.str x) j pos) pos') sNx := PSimp ps_doc fun D σ H h => h.nx
theorem tS.seq {D : Ends} {σ : St} {H : Hp} (h : tS G W (sSeq f g) D σ H) : tS G W f { D with nx := tS G W g D } σ H := by
  obtain ⟨m, F, ρ, S, s, e, r, q, h⟩ := h
  refine ⟨m, F, ρ, S, s, e, ?_⟩
  unfold sSeq at q
  cases ex : f ρ S with
  | none => rw [ex] at q; cases q
  | some r1 =>
    rw [ex] at q
    cases r1 with
    | nx ρ' S' => exact ⟨_, rfl, fun m' F' H' σ' e1 s1 r1 => ⟨m', F', ρ', S', s1, r1, r, q, h.mono e1⟩⟩
    | rt d S' => cases q; exact ⟨_, rfl, h⟩
    | bk ρ' S' => cases q; exact ⟨_, rfl, h⟩
    | ct ρ' S' => cases q; exact ⟨_, rfl, h⟩
    | ex x ρ' S' => cases q; exact ⟨_, rfl, h⟩
theorem sss_cons (h1 : SS X G W st f) (h2 : SSs X G W sts g) : SSs X G W (st :: sts) (sSeq f g) := PSsimp (pss_cons h1 h2) fun D σ H h => h.seq
theorem sss_one (h1 : SS X G W st f) : SSs X G W [st] f := pss_one h1
theorem ss_ret (he : SE X G W e fe) : SS X G W (.Return (some e) pos) (sRet fe) := by
  refine PSimp (ps_ret he) fun D σ H h => ?_
  refine (tS.bind h).imp fun x H1 ⟨m, F, ρ, S, d, s, _, hx, r, q, h⟩ => ?_
  cases q
  exact h m F H1 x .refl s hx
theorem ss_retN : SS X G W (.Return none pos) (sRt .non) := PSimp ps_retN fun D σ H ⟨m, F, ρ, S, s, e, r, q, h⟩ => by
  cases q
  exact h m F H .non .refl s rfl
theorem ss_drop (he : SE X G W e fe) (hs : swapsWith e none pos.line X.env = pure false) : SS X G W (.Expr e pos) (sDrop fe) := by
  refine PSimp (ps_expr he hs) fun D σ H h => ?_
  refine (tS.bind h).imp fun x H1 ⟨m, F, ρ, S, d, s, hρ, hx, h⟩ => h.nx s hρ
theorem ss_if {bt bf : List Stmt} (hc : ST X G W c ft) (ha : SSs X G W bt f) (hb : SSs X G W bf g) : SS X G W (.If c bt bf pos) (sIf ft f g) := by
  refine PSimp (ps_if hc ha hb) fun D σ H h => ?_
  refine (tS.bind h).imp fun x H1 ⟨m, F, ρ, S, d, s, hρ, hx, h⟩ => ?_
  obtain rfl : d = x := hx
  cases d with
  | true => exact ⟨m, F, ρ, S, s, hρ, h⟩
  | false => exact ⟨m, F, ρ, S, s, hρ, h⟩
/-- a target's reading -/
def tG (G : GW) (W : WX) (g : Gv) : TG := fun v σ H Q => ∃ m F ρ S d, Sim G m F S H ∧ relE G m F ρ σ ∧ relD G m F d v ∧ RunS G W (g d ρ S) m F { nx := Q, rt := fun _ _ => False }
abbrev SGv (X : Cx) (G : GW) (W : WX) (tg : Expr) (g : Gv) : Prop := PG X tg (tG G W g)
theorem PGimp {X : Cx} {e : Expr} {t t' : TG} (h : PG X e t) (w : ∀ v σ H Q, t' v σ H Q → t v σ H Q) : PG X e t' := ⟨fun pins s σ H v u Q I r q => h.run pins s σ H v u Q I r (w v σ H Q q)⟩
theorem sgv_one {i : Nat} {x : Str} (hN : X.N.Nodup) (hi : X.N[i]? = some x) (hx : Loc X.env.scope x) (hf : X.fn x = true ∨ X.env.scope.names.lookup x = some .local) : SGv X G W (.Name x pos) (gOne i) :=
  PGimp (pg_name hN hi hx hf) fun v σ H Q ⟨m, F, ρ, S, d, s, hρ, hd, r, q, h⟩ => by
    cases q
    exact h m F H _ .refl s (hρ.set i hd)
inductive SGs (X : Cx) (G : GW) (W : WX) : List Expr → List Gv → Prop
  | nil : SGs X G W [] []
  | cons {e : Expr} {es : List Expr} {g : Gv} {gs : List Gv} : SGv X G W e g → assignEach (e :: es) X.env = (false, assign e X.env) :: assignEach es X.env → SGs X G W es gs → SGs X G W (e :: es) (g :: gs)
def tGs (G : GW) (W : WX) (gs : List Gv) : TGs := fun vs σ H Q => ∃ m F ρ S ds, Sim G m F S H ∧ relE G m F ρ σ ∧ relDs G m F ds vs ∧ RunS G W (gAll gs ds ρ S) m F { nx := Q, rt := fun _ _ => False }
theorem RunS.seq {m : List Addr} {F : Hp} {ρ : En} {S : Store} {D : Ends} {N : St → Hp → Prop} (h : RunS G W (sSeq f g ρ S) m F D) (hN : ∀ m' F' ρ' S' σ' H', Ext m F m' F' → Sim G m' F' S' H' → relE G m' F' ρ' σ' → RunS G W (g ρ' S') m' F' D → N σ' H') : RunS G W (f ρ S) m F { D with nx := N } := by
  obtain ⟨r, q, h⟩ := h
  unfold sSeq at q
  cases ex : f ρ S with
  | none => rw [ex] at q; cases q
  | some r1 =>
    rw [ex] at q
    cases r1 with
    | nx ρ' S' => exact ⟨_, rfl, fun m' F' H' σ' e1 s1 r1 => hN m' F' ρ' S' σ' H' e1 s1 r1 ⟨r, q, h.mono e1⟩⟩
    | ct ρ' S' => cases q; exact ⟨_, rfl, h⟩
    | rt d S' => cases q; exact ⟨_, rfl, h⟩
    | bk ρ' S' => cases q; exact ⟨_, rfl, h⟩
    | ex x ρ' S' => cases q; exact ⟨_, rfl, h⟩
theorem SGs.pgs {es : List Expr} {gs : List Gv} (h : SGs X G W es gs) : PGs X es (tGs G W gs) ∧ (assignEach es X.env).length = gs.length ∧ (assignEach es X.env).findIdx? (·.1) = none := by
  induction h with
  | nil =>
    refine ⟨⟨fun pins s σ H vs us Q I r hw => ?_⟩, rfl, rfl⟩
    refine pgs_nil.run pins s σ H vs us Q I r ?_
    obtain ⟨m, F, ρ, S, ds, s', hρ, hd, h⟩ := hw
    cases ds with
    | nil =>
      obtain rfl : vs = [] := hd
      exact ⟨rfl, h.nx s' hρ⟩
    | cons _ _ => obtain ⟨_, q, _⟩ := h; cases q
  | @cons e es g gs h1 h2 _ ih =>
    obtain ⟨i1, i2, i3⟩ := ih
    refine ⟨⟨fun pins s σ H vs us Q I r hw => ?_⟩, by rw [h2, List.length_cons, List.length_cons, i2], ?_⟩
    · refine (pgs_cons h1 i1 (by rw [h2] <;> rfl)).run pins s σ H vs us Q I r ?_
      obtain ⟨m, F, ρ, S, ds, s', hρ, hd, h⟩ := hw
      cases ds with
      | nil => obtain ⟨_, q, _⟩ := h; cases q
      | cons d ds =>
        obtain ⟨v, vr, rfl, q1, q2⟩ := hd
        refine ⟨v, vr, rfl, m, F, ρ, S, d, s', hρ, q1, ?_⟩
        refine RunS.seq (D := { nx := Q, rt := fun _ _ => False }) h fun m' F' ρ' S' σ' H' e s2 hρ2 h2 => ?_
        exact ⟨m', F', ρ', S', ds, s2, hρ2, q2.mono e, h2⟩
    · rw [h2, List.findIdx?_cons]
      simp [i3]
theorem sgv_tup {es : List Expr} {gs : List Gv} {kk : Nat} (hc : X.calm = true) (hK : X.K = G.K) (h : SGs X G W es gs) : SGv X G W (.Tuple es kk pos) (gTupG gs) := by
  obtain ⟨h1, h2, h3⟩ := h.pgs
  have both : PG X (.Tuple es kk pos) (fun v σ H Q => gTup X.K gs.length (fun vs σ H Q => ∃ m F ρ S ds, Sim G m F S H ∧ relE G m F ρ σ ∧ relDs G m F ds vs ∧ RunS G W (gAll gs ds ρ S) m F { nx := Q, rt := fun _ _ => False }) v σ H Q ∨ L2.gLst X.K gs.length (fun vs σ H Q => ∃ m F ρ S ds, Sim G m F S H ∧ relE G m F ρ σ ∧ relDs G m F ds vs ∧ RunS G W (gAll gs ds ρ S) m F { nx := Q, rt := fun _ _ => False }) v σ H Q) := by
    refine ⟨fun pins s σ H v u Q I r hw => ?_⟩
    rcases hw with hw | hw
    · exact (pg_tup (n := gs.length) hc h1 h2 h3).run pins s σ H v u Q I r hw
    · exact (L2.pg_lst (n := gs.length) hc h1 h2 h3).run pins s σ H v u Q I r hw
  refine PGimp both fun v σ H Q ⟨m, F, ρ, S, d, s, hρ, hd, h⟩ => ?_
  cases d with
  | tup ds =>
    obtain ⟨a, vs, rfl, q1, q2⟩ := hd
    unfold gTupG at h
    simp only at h
    split at h
    · rename_i hl
      exact .inl ⟨a, vs, rfl, by rw [hK]; exact s.sqT q1, by rw [← q2.length]; exact hl, m, F, ρ, S, ds, s, hρ, q2, h⟩
    · obtain ⟨_, q, _⟩ := h; cases q
  | flst ds =>
    obtain ⟨a, vs, rfl, q1, q2⟩ := hd
    unfold gTupG at h
    simp only at h
    split at h
    · rename_i hl
      exact .inr ⟨a, vs, rfl, by rw [hK]; exact s.sqL q1, by rw [← q2.length]; exact hl, m, F, ρ, S, ds, s, hρ, q2, h⟩
    · obtain ⟨_, q, _⟩ := h; cases q
  | ref i =>
    obtain ⟨a, rfl, ha⟩ := hd
    unfold gTupG at h
    simp only at h
    cases ec : S[i]? with
    | none => rw [ec] at h; obtain ⟨_, q, _⟩ := h; cases q
    | some cell =>
      rw [ec] at h
      cases cell with
      | lst ds =>
        simp only at h
        obtain ⟨vs, w1, w2⟩ := s.cel _ _ _ ha ec
        split at h
        · rename_i hl
          exact .inr ⟨a, vs, rfl, .of w1, by rw [← w2.length]; exact hl, m, F, ρ, S, ds, s, hρ, w2, h⟩
        · obtain ⟨_, q, _⟩ := h; cases q
      | _ => obtain ⟨_, q, _⟩ := h; cases q
  | _ => obtain ⟨_, q, _⟩ := h; cases q
theorem asg_red {gv : Gv} {D : Ends} {σ : St} {H : Hp} (h : tS G W (sAsg gv fe) D σ H) (hb : True) : tAsg (tE G W fe) (fun v σ H Q => ∃ m F ρ S d, Sim G m F S H ∧ relE G m F ρ σ ∧ relD G m F d v ∧ RunS G W (gv d ρ S) m F D) D σ H :=
  (tS.bind h).imp fun x H1 ⟨m, F, ρ, S, d, s, hρ, hx, h⟩ => ⟨m, F, ρ, S, d, s, hρ, hx, h⟩
/-- a target ends as it should -/
def Gv.plain (g : Gv) : Prop := ∀ d ρ S r, g d ρ S = some r → (∃ ρ' S', r = .nx ρ' S') ∨ ∃ e ρ' S', r = .ex e ρ' S'
theorem ss_asg {gv : Gv} (hp : gv.plain) (he : SE X G W e fe) (ht : SGv X G W tg gv) (hs : swapsWithSole [tg] e pos.line X.env = pure false) (hw : swappedStores [tg] e X.env = pure none)
    (h1 : (assignEach [tg] X.env).map (·.2) = [assign tg X.env]) : SS X G W (.Assign [tg] e pos) (sAsg gv fe) := by
  refine PSimp (ps_asg he ht hs hw h1) fun D σ H h => ?_
  refine (asg_red h trivial).imp fun x H1 ⟨m, F, ρ, S, d, s, hρ, hx, r, q, h⟩ => ⟨m, F, ρ, S, d, s, hρ, hx, r, q, ?_⟩
  rcases hp _ _ _ _ q with ⟨_, _, rfl⟩ | ⟨_, _, _, rfl⟩
  · exact h
  · exact h
theorem ss_par2 {i j : Nat} {x y : Str} {ga : Av} {px py pt : Pos} {kt k2 pt2} (g : GX X G W k) (hi : X.N[i]? = some x) (hj : X.N[j]? = some y) (hij : i ≠ j)
    (hx : X.env.scope.names.lookup x = some .local) (hy : X.env.scope.names.lookup y = some .local) (ha : SA X G W [a, b] ga)
    (hw : swappedStores [.Tuple [.Name x px, .Name y py] kt pt] (.Tuple [a, b] k2 pt2) X.env = pure (some [x, y])) :
    SS X G W (.Assign [.Tuple [.Name x px, .Name y py] kt pt] (.Tuple [a, b] k2 pt2) pos) (sPar [i, j] ga) := by
  refine PSimp (ps_par g.calm g.nd hi hj hij hx hy ha hw rfl) fun D σ H h => ?_
  refine (tS.bind h).imp fun vs H1 ⟨m, F, ρ, S, ds, s, hρ, hx, h⟩ => ?_
  obtain ⟨r, q, h⟩ := h
  unfold optS at q
  simp only at q
  split at q
  · rename_i ρ' hc
    split at hc
    · rename_i hl
      cases hc
      cases q
      have hv : vs.length = 2 := by rw [← hx.length]; exact hl
      obtain ⟨v, w, rfl⟩ : ∃ v w, vs = [v, w] := by
        match vs, hv with
        | [v, w], _ => exact ⟨v, w, rfl⟩
      exact ⟨v, w, rfl, h m F H1 _ .refl s (setAll_rel hρ hx)⟩
    · cases hc
  · cases q
theorem ss_par3 {i j l : Nat} {x y z : Str} {ga : Av} {px py pz pt : Pos} {kt k2 pt2} (g : GX X G W k) (hi : X.N[i]? = some x) (hj : X.N[j]? = some y) (hl : X.N[l]? = some z) (hij : i ≠ j) (hil : i ≠ l) (hjl : j ≠ l)
    (hx : X.env.scope.names.lookup x = some .local) (hy : X.env.scope.names.lookup y = some .local) (hz : X.env.scope.names.lookup z = some .local) (ha : SA X G W [a, b, c] ga)
    (hw : swappedStores [.Tuple [.Name x px, .Name y py, .Name z pz] kt pt] (.Tuple [a, b, c] k2 pt2) X.env = pure (some [x, y, z])) :
    SS X G W (.Assign [.Tuple [.Name x px, .Name y py, .Name z pz] kt pt] (.Tuple [a, b, c] k2 pt2) pos) (sPar [i, j, l] ga) := by
  refine PSimp (ps_par3 g.calm g.nd hi hj hl hij hil hjl hx hy hz ha hw rfl) fun D σ H h => ?_
  refine (tS.bind h).imp fun vs H1 ⟨m, F, ρ, S, ds, s, hρ, hx, h⟩ => ?_
  obtain ⟨r, q, h⟩ := h
  unfold optS at q
  simp only at q
  split at q
  · rename_i ρ' hc
    split at hc
    · rename_i hl
      cases hc
      cases q
      have hv : vs.length = 3 := by rw [← hx.length]; exact hl
      obtain ⟨u, v, w, rfl⟩ : ∃ u v w, vs = [u, v, w] := by
        match vs, hv with
        | [u, v, w], _ => exact ⟨u, v, w, rfl⟩
      exact ⟨u, v, w, rfl, h m F H1 _ .refl s (setAll_rel hρ hx)⟩
    · cases hc
  · cases q
theorem tS.turn {D : Ends} {σ : St} {H : Hp} (h : tS G W (turnS f g) D σ H) : tS G W f { D with nx := tS G W g D, ct := tS G W g D, bk := D.nx } σ H := by
  obtain ⟨m, F, ρ, S, s, e, r, q, h⟩ := h
  refine ⟨m, F, ρ, S, s, e, ?_⟩
  unfold turnS at q
  cases ex : f ρ S with
  | none => rw [ex] at q; cases q
  | some r1 =>
    rw [ex] at q
    cases r1 with
    | nx ρ' S' => exact ⟨_, rfl, fun m' F' H' σ' e1 s1 r1 => ⟨m', F', ρ', S', s1, r1, r, q, h.mono e1⟩⟩
    | ct ρ' S' => exact ⟨_, rfl, fun m' F' H' σ' e1 s1 r1 => ⟨m', F', ρ', S', s1, r1, r, q, h.mono e1⟩⟩
    | rt d S' => cases q; exact ⟨_, rfl, h⟩
    | bk ρ' S' => cases q; exact ⟨_, rfl, h⟩
    | ex x ρ' S' => cases q; exact ⟨_, rfl, h⟩
theorem RunS.turn {m : List Addr} {F : Hp} {ρ : En} {S : Store} {D : Ends} {N : St → Hp → Prop} (h : RunS G W (turnS f g ρ S) m F D) (hN : ∀ m' F' ρ' S' σ' H', Ext m F m' F' → Sim G m' F' S' H' → relE G m' F' ρ' σ' → RunS G W (g ρ' S') m' F' D → N σ' H') : RunS G W (f ρ S) m F { D with nx := N, ct := N, bk := D.nx } := by
  obtain ⟨r, q, h⟩ := h
  unfold turnS at q
  cases ex : f ρ S with
  | none => rw [ex] at q; cases q
  | some r1 =>
    rw [ex] at q
    cases r1 with
    | nx ρ' S' => exact ⟨_, rfl, fun m' F' H' σ' e1 s1 r1 => hN m' F' ρ' S' σ' H' e1 s1 r1 ⟨r, q, h.mono e1⟩⟩
    | ct ρ' S' => exact ⟨_, rfl, fun m' F' H' σ' e1 s1 r1 => hN m' F' ρ' S' σ' H' e1 s1 r1 ⟨r, q, h.mono e1⟩⟩
    | rt d S' => cases q; exact ⟨_, rfl, h⟩
    | bk ρ' S' => cases q; exact ⟨_, rfl, h⟩
    | ex x ρ' S' => cases q; exact ⟨_, rfl, h⟩
theorem ss_while {body : List Stmt} (hp : PassesOwn (model X.prog X.w) X.A X.env X.xe) (hc : ST X G W c ft) (hb : SSs X G W body f) : SS X G W (.While c body [] pos) (sWhile ft f) := by
  refine PSimp (ps_while hp hc hb) fun D σ H ⟨m, F, ρ, S, s, e, r, q, h⟩ => ?_
  obtain ⟨n, hn⟩ := sWhile_some q
  refine ⟨fun n σ H => tS G W (whileN ft f n) D σ H, ⟨n, m, F, ρ, S, s, e, r, hn, h⟩, ?_⟩
  intro n σ H h
  cases n with
  | zero => obtain ⟨_, _, _, _, _, _, _, q, _⟩ := h; cases q
  | succ n =>
    refine (tS.bind (rel := relB) (x := ft) (show tS G W (sBind ft fun c => if c then turnS f (whileN ft f n) else sNx) D σ H from h)).imp fun b H1 ⟨m, F, ρ, S, d, s, hρ, hx, h⟩ => ?_
    obtain rfl : d = b := hx
    cases d with
    | true => exact ⟨tS G W (whileN ft f n) D, fun σ' H' h' => ⟨n, Nat.lt_succ_self n, h'⟩, tS.turn ⟨m, F, ρ, S, s, hρ, h⟩⟩
    | false => exact h.nx s hρ
theorem ss_for {body : List Stmt} {it : Iv} {t : Tg} (gx : GX X G W k) (hp : PassesOwn (model X.prog X.w) X.A X.env X.xe) (hi : SI X G W tg iter it) (hg : SG X tg t) (hb : SSs X G W body f) (hs : ∀ x, foldedSetIterable iter X.env x = pure x) : SS X G W (.For tg iter body [] pos) (sFor it t f) := by
  refine PSimp (ps_for hp gx.calm hi hg hb hs) fun D σ H h => ?_
  refine (tS.bind h).imp fun J H1 ⟨m, F, ρ, S, itm, s, hρ, hI, h⟩ => ?_
  refine ⟨fun i n σ H' => n = itm.items.length - i ∧ i ≤ itm.items.length ∧ ∃ m' F' ρ' S', Ext m F m' F' ∧ Sim G m' F' S' H' ∧ relE G m' F' ρ' σ ∧ RunS G W (forGo itm.src t f (itm.items.drop i) ρ' S') m' F' D, ⟨itm.items.length, by simp, Nat.zero_le _, m, F, ρ, S, .refl, s, hρ, by simpa using h⟩, ?_⟩
  rintro i n σ H' ⟨rfl, hi2, m', F', ρ', S', e1, s1, hρ', hgo⟩
  by_cases hlt : i < itm.items.length
  · have hdrop : itm.items.drop i = itm.items[i] :: itm.items.drop (i + 1) := (List.getElem_cons_drop hlt).symm
    rw [hdrop] at hgo
    unfold forGo at hgo
    by_cases hok : itm.src.ok S'
    case neg => rw [if_neg hok] at hgo; obtain ⟨_, q, _⟩ := hgo; cases q
    rw [if_pos hok] at hgo
    obtain ⟨_, hy⟩ := hI m' F' S' H' e1 s1 hok
    obtain ⟨hgo1, hyl⟩ := hy i _ (List.getElem?_eq_getElem hlt)
    refine .inr ⟨hgo1, fun σ2 H2 => i + 1 ≤ itm.items.length ∧ ∃ m' F' ρ' S', Ext m F m' F' ∧ Sim G m' F' S' H2 ∧ relE G m' F' ρ' σ2 ∧ RunS G W (forGo itm.src t f (itm.items.drop (i + 1)) ρ' S') m' F' D, fun σ2 H2 hN => ⟨itm.items.length - (i + 1), by omega, rfl, hN⟩, fun x H2 hyx => ?_⟩
    obtain ⟨F2, e2, s2, hx⟩ := hyl x H2 hyx
    rw [gx.hK]
    cases ea : t.asg itm.items[i] ρ' with
    | none =>
      obtain ⟨r, q, _⟩ := hgo
      unfold sSeq optS at q
      simp only [ea] at q
      cases q
    | some ρ1 =>
      refine Tg.g_ok s2 (hρ'.mono e2) hx ea fun σ' hσ _ => ?_
      have h1 : RunS G W (turnS f (forGo itm.src t f (itm.items.drop (i + 1))) ρ1 S') m' F2 D := by
        unfold sSeq optS at hgo
        simp only [ea] at hgo
        exact hgo.mono e2
      exact ⟨m', F2, ρ1, S', s2, hσ, h1.turn fun m3 F3 ρ3 S3 σ3 H3 e3 s3 hρ3 h3 => ⟨hlt, m3, F3, ρ3, S3, (e1.trans e2).trans e3, s3, hρ3, h3⟩⟩
  · have e : i = itm.items.length := by omega
    subst e
    rw [List.drop_length] at hgo
    unfold forGo at hgo
    by_cases hok : itm.src.ok S'
    case neg => rw [if_neg hok] at hgo; obtain ⟨_, q, _⟩ := hgo; cases q
    rw [if_pos hok] at hgo
    obtain ⟨hst, _⟩ := hI m' F' S' H' e1 s1 hok
    exact .inl ⟨hst _ (Nat.le_refl _), hgo.nx s1 hρ'⟩
end
end MP

/-! MPM: stores into objects, lists, dicts; calls of methods. -/
namespace MP
open PySem PySem.Spec PyProof.Rows L2

/-- o.f = e -/
def putFD (f : Str) (d : D) : List (Str × D) → List (Str × D)
  | [] => [(f, d)]
  | (g, x) :: r => if g = f then (g, d) :: r else (g, x) :: putFD f d r
def oPutF (Γ : Pg) (f : Str) (o d : D) : M Unit := fun S => match o with
  | .ref r => (match S[r]? with
    | some (.obj c fs) => if f ∈ Γ.fields c ∧ fs.length < 1000 then some (.ok () (S.set r (.obj c (putFD f d fs)))) else none
    | _ => none)
  | _ => none
def gFldS (Γ : Pg) (f : Str) (o : Ev) : Gv := fun d => sBind o fun x => sBind (fun _ => oPutF Γ f x d) fun _ => sNx
/-- o[i] = e -/
def oPut (o i d : D) : M Unit := fun S => match o with
  | .ref r => (match S[r]? with
    | some (.lst xs) => (match i with
      | .int z => (match ixN xs.length z with
        | some n => some (.ok () (S.set r (.lst (xs.set n d))))
        | none => none)
      | _ => none)
    | some (.dct kvs) => (match keyD i with
      | some k => if kvs.length < sizeLine then some (.ok () (S.set r (.dct (putD kvs k d)))) else none
      | none => none)
    | _ => none)
  | _ => none
def gSubS (o i : Ev) : Gv := fun d => sBind o fun x => sBind i fun y => sBind (fun _ => oPut x y d) fun _ => sNx
theorem gOne_plain {i : Nat} : (gOne i).plain := fun d ρ S r h => by cases h; exact .inl ⟨_, _, rfl⟩
theorem plain_bind {α : Type} {x : En → M α} {k : α → Sv} (h : ∀ a ρ S r, k a ρ S = some r → (∃ ρ' S', r = .nx ρ' S') ∨ ∃ e ρ' S', r = .ex e ρ' S') : ∀ ρ S r, sBind x k ρ S = some r → (∃ ρ' S', r = .nx ρ' S') ∨ ∃ e ρ' S', r = .ex e ρ' S' := fun ρ S r q => by
  unfold sBind at q
  split at q
  · exact h _ _ _ _ q
  · cases q; exact .inr ⟨_, _, _, rfl⟩
  · cases q
theorem plain_nx : ∀ ρ S r, sNx ρ S = some r → (∃ ρ' S', r = .nx ρ' S') ∨ ∃ e ρ' S', r = .ex e ρ' S' := fun ρ S r h => by cases h; exact .inl ⟨_, _, rfl⟩
theorem gFldS_plain {Γ : Pg} {f : Str} {o : Ev} : (gFldS Γ f o).plain := fun d => plain_bind fun _ => plain_bind fun _ => plain_nx
theorem gSubS_plain {o i : Ev} : (gSubS o i).plain := fun d => plain_bind fun _ => plain_bind fun _ => plain_bind fun _ => plain_nx
theorem gAll_plain : ∀ {gs : List Gv}, (∀ g ∈ gs, g.plain) → ∀ ds ρ S r, gAll gs ds ρ S = some r → (∃ ρ' S', r = .nx ρ' S') ∨ ∃ e ρ' S', r = .ex e ρ' S'
  | [], _, [], ρ, S, r, h => plain_nx ρ S r h
  | [], _, _ :: _, _, _, _, h => by cases h
  | _ :: _, _, [], _, _, _, h => by cases h
  | g :: gs, hp, d :: ds, ρ, S, r, h => by
    unfold gAll sSeq at h
    split at h
    · exact gAll_plain (fun g hg => hp g (List.mem_cons_of_mem _ hg)) ds _ _ r h
    · exact hp g List.mem_cons_self d ρ S r h
theorem gTupG_plain {gs : List Gv} (hp : ∀ g ∈ gs, g.plain) : (gTupG gs).plain := fun d ρ S r h => by
  unfold gTupG at h
  split at h
  · split at h
    · exact gAll_plain hp _ _ _ _ h
    · cases h
  · split at h
    · exact gAll_plain hp _ _ _ _ h
    · cases h
  · split at h
    · split at h
      · exact gAll_plain hp _ _ _ _ h
      · cases h
    · cases h
  · cases h

section
variable {Γ : Pg} {X : Cx} {G : GW} {W : WX} {C : Calls} {a b c e o i : Expr} {pos apos : Pos} {fa fb fo fi : Ev} {k : Nat}
theorem putFD_rel {m : List Addr} {F : Hp} {f : Str} {d : D} {v : V} (hd : relD G m F d v) : ∀ {fs : List (Str × D)} {ws : List (Str × V)}, fs.map (·.1) = ws.map (·.1) → relDs G m F (fs.map (·.2)) (ws.map (·.2)) →
    (putFD f d fs).map (·.1) = (L2.putF f v ws).map (·.1) ∧ relDs G m F ((putFD f d fs).map (·.2)) ((L2.putF f v ws).map (·.2))
  | [], [], _, _ => ⟨rfl, relDs.cons hd relDs.nil⟩
  | [], _ :: _, h, _ => by simp at h
  | _ :: _, [], h, _ => by simp at h
  | (g, x) :: fs, (g', w) :: ws, h, r => by
    obtain ⟨w', ws', e, r1, r2⟩ := r
    simp only [List.map_cons, List.cons.injEq] at h e
    obtain ⟨h1, h2⟩ := h
    obtain ⟨e1, e2⟩ := e
    subst h1 e1 e2
    unfold putFD L2.putF
    by_cases hg : g = f
    · rw [if_pos hg, if_pos hg]
      exact ⟨by simp [h2], relDs.cons hd r2⟩
    · rw [if_neg hg, if_neg hg]
      obtain ⟨i1, i2⟩ := putFD_rel (f := f) hd h2 r2
      exact ⟨by simp [i1], relDs.cons r1 i2⟩
theorem putD_rel {m : List Addr} {F : Hp} {kk : Key} {d : D} {v : V} (hd : relD G m F d v) {kvs : List (Key × D)} {ws : List (Key × V)} (h : kvs.map (·.1) = ws.map (·.1)) (r : relDs G m F (kvs.map (·.2)) (ws.map (·.2))) :
    (putD kvs kk d).map (·.1) = (L2.putK ws kk v).map (·.1) ∧ relDs G m F ((putD kvs kk d).map (·.2)) ((L2.putK ws kk v).map (·.2)) := by
  have hany : kvs.any (fun kv => decide (kv.1 = kk)) = ws.any (fun kv => decide (kv.1 = kk)) := by
    have e1 : kvs.any (fun kv => decide (kv.1 = kk)) = (kvs.map (·.1)).any (fun x => decide (x = kk)) := by rw [List.any_map]; rfl
    have e2 : ws.any (fun kv => decide (kv.1 = kk)) = (ws.map (·.1)).any (fun x => decide (x = kk)) := by rw [List.any_map]; rfl
    rw [e1, e2, h]
  unfold putD L2.putK
  rw [hany]
  split
  · rename_i hz
    clear hz hany
    induction kvs generalizing ws with
    | nil =>
      cases ws with
      | nil => exact ⟨rfl, relDs.nil⟩
      | cons _ _ => simp at h
    | cons p kvs ih =>
      cases ws with
      | nil => simp at h
      | cons q ws =>
        obtain ⟨w', ws', e, r1, r2⟩ := r
        simp only [List.map_cons, List.cons.injEq] at h e
        obtain ⟨h1, h2⟩ := h
        obtain ⟨e1, e2⟩ := e
        subst e2
        obtain ⟨i1, i2⟩ := ih h2 r2
        simp only [List.map_cons]
        rw [h1]
        by_cases hk : q.1 = kk
        · rw [if_pos hk, if_pos hk]
          exact ⟨by rw [i1], relDs.cons hd i2⟩
        · rw [if_neg hk, if_neg hk]
          exact ⟨by rw [i1, h1], relDs.cons (by rw [e1]; exact r1) i2⟩
  · rw [List.map_append, List.map_append, List.map_append, List.map_append, h]
    exact ⟨rfl, r.append (relDs.cons hd relDs.nil)⟩
theorem sgv_fld (g : GY Γ X G W C k) {f : Str} (ho : SE X G W o fo) : SGv X G W (.Attribute o f apos) (gFldS Γ f fo) := by
  refine ⟨fun pins s σ H v u Q I r hw => ?_⟩
  rw [assign_Attribute]
  obtain ⟨m, F, ρ, S, d, s', hρ, hd, h⟩ := hw
  have h1 := RunS.bind (rel := relD G) (x := fo) s' hρ h
  refine wpAny_bind (wpAny_holding (thn (ho.run pins s σ H _ I ⟨m, F, ρ, S, s', hρ, h1⟩) fun ov s1 ⟨x, H1, I1, rx, m1, F1, S1, dx, e1, s1', hρ1, hx, r1⟩ => ?_))
  refine wpAny_bind (wpAny_standAt (wpAny_bind (wpAny_holding ?_)))
  obtain ⟨rr, q, hq⟩ := r1
  unfold sBind at q
  cases dx with
  | ref ri =>
    obtain ⟨ad, rfl, ha⟩ := hx
    unfold oPutF at q
    simp only at q
    cases ec : S1[ri]? with
    | none => rw [ec] at q; cases q
    | some cell =>
      rw [ec] at q
      cases cell with
      | obj c fs =>
        simp only at q
        by_cases hc : f ∈ Γ.fields c ∧ fs.length < 1000
        · rw [if_pos hc] at q
          cases q
          obtain ⟨dx, ws, q1, q2, q3⟩ := s1'.cel _ _ _ ha ec
          obtain ⟨p1, p2⟩ := putFD_rel (f := f) (hd.mono e1) q2 q3
          have hcd : ∃ cd, Γ.cls[c]? = some cd := by
            have := hc.1
            unfold Pg.fields at this
            split at this
            · rename_i cd hcd; exact ⟨cd, hcd⟩
            · cases this
          obtain ⟨cd, hcd⟩ := hcd
          have cl := g.wf.cls c cd hcd
          have na := g.wf.noat c f hc.1
          rw [← g.hK] at cl na
          obtain rfl : ov = Value.ref ad := rx
          have hl : ws.length < 1000 := by
            have := congrArg List.length q2
            simp only [List.length_map] at this
            rw [← this]; exact hc.2
          refine setattr_ok I1 q1 cl na hl r fun s2 I2 => wpAny_release ⟨σ, _, I2, ?_⟩
          exact hq m1 F1 _ σ .refl (s1'.write ha (c := .obj c (putFD f d fs)) ⟨dx, _, rfl, p1, p2⟩) hρ1
        · rw [if_neg hc] at q; cases q
      | lst _ => cases q
      | dct _ => cases q
  | _ => cases q
theorem sgv_sub (g : GX X G W k) (ho : SE X G W o fo) (hi : SE X G W i fi) (hs : ∀ v, assign (.Subscript o i pos) X.env v = (do
      let ov ← holding [v] (eval o X.env)
      let iv ← holding [v, ov] (eval i X.env)
      standAt pos
      holding [v, ov, iv] (setItem ov iv v)
      release [v, ov, iv] [])) : SGv X G W (.Subscript o i pos) (gSubS fo fi) := by
  refine ⟨fun pins s σ H v u Q I r hw => ?_⟩
  rw [hs]
  obtain ⟨m, F, ρ, S, d, s', hρ, hd, h⟩ := hw
  have h1 := RunS.bind (rel := relD G) (x := fo) s' hρ h
  refine wpAny_bind (wpAny_holding (thn (ho.run pins s σ H _ I ⟨m, F, ρ, S, s', hρ, h1⟩) fun ov s1 ⟨x, H1, I1, rx, m1, F1, S1, dx, e1, s1', hρ1, hx, r1⟩ => ?_))
  have h2 := RunS.bind (rel := relD G) (x := fi) s1' hρ1 r1
  refine wpAny_bind (wpAny_holding (thn (hi.run pins s1 σ H1 _ I1 ⟨m1, F1, ρ, S1, s1', hρ1, h2⟩) fun iv s2 ⟨y, H2, I2, ry, m2, F2, S2, dy, e2, s2', hρ2, hy, r2⟩ => ?_))
  refine wpAny_bind (wpAny_standAt (wpAny_bind (wpAny_holding ?_)))
  have hx2 := hx.mono e2
  have hd2 := (hd.mono e1).mono e2
  obtain ⟨rr, q, hq⟩ := r2
  unfold sBind at q
  cases dx with
  | ref ri =>
    obtain ⟨ad, rfl, ha⟩ := hx2
    unfold oPut at q
    simp only at q
    cases ec : S2[ri]? with
    | none => rw [ec] at q; cases q
    | some cell =>
      rw [ec] at q
      cases cell with
      | obj c fs => cases q
      | lst xs =>
        cases dy with
        | int z =>
          simp only at q
          cases en : ixN xs.length z with
          | none => rw [en] at q; cases q
          | some n =>
            rw [en] at q
            cases q
            obtain ⟨vs, q1, q2⟩ := s2'.cel _ _ _ ha ec
            obtain rfl : y = V.int z := hy
            refine thn (set_list pins s2 σ H2 (.ref ad) (.int z) v ov iv u (fun H3 => Q σ H3) I2 rx ry r ⟨ad, vs, z, n, rfl, rfl, q1, by rw [← q2.length]; exact en, ?_⟩) fun _ s3 ⟨H3, I3, q3⟩ => wpAny_release ⟨σ, H3, I3, q3⟩
            exact hq m2 F2 _ σ .refl (s2'.write ha (c := .lst (xs.set n d)) ⟨_, rfl, q2.set hd2 n⟩) hρ2
        | _ => cases q
      | dct kvs =>
        simp only at q
        cases ek : keyD dy with
        | none => rw [ek] at q; cases q
        | some kk =>
          rw [ek] at q
          simp only at q
          by_cases hl : kvs.length < sizeLine
          · rw [if_pos hl] at q
            cases q
            obtain ⟨ws, q1, q2, q3⟩ := s2'.cel _ _ _ ha ec
            obtain rfl := keyD_kV ek hy
            obtain ⟨p1, p2⟩ := putD_rel (kk := kk) hd2 q2 q3
            have hlw : ws.length < sizeLine := by
              have := congrArg List.length q2
              simp only [List.length_map] at this
              rw [← this]; exact hl
            refine thn (set_dict (by have := units200 g; omega) pins s2 σ H2 (.ref ad) (kV kk) v ov iv u (fun H3 => Q σ H3) I2 rx ry r ⟨ad, _, rfl, .k q1 hlw, ?_⟩) fun _ s3 ⟨H3, I3, q3⟩ => wpAny_release ⟨σ, H3, I3, q3⟩
            exact hq m2 F2 _ σ .refl (s2'.write ha (c := .dct (putD kvs kk d)) ⟨_, rfl, p1, p2⟩) hρ2
          · rw [if_neg hl] at q; cases q
  | _ => cases q
end
end MP

/-! MPN: calls of methods. -/
namespace MP
open PySem PySem.Spec PyProof.Rows L2

/-- the receiver's kind -/
def isKind (T : String) (x : D) (S : Store) : Bool := match x with
  | .str _ => T == "str"
  | .ref r => (match S[r]? with
    | some (.lst _) => T == "list"
    | some (.dct _) => T == "dict"
    | _ => false)
  | .flst _ => T == "list"
  | _ => false
def eM (T : String) (mm : D → List D → M D) (o : Ev) (a : Av) : Ev := fun ρ => .bind (o ρ) fun x S => if isKind T x S = true then M.bind (a ρ) (fun ds => mm x ds) S else none
def mAppend (x : D) (ds : List D) : M D := fun S => match x, ds with
  | .ref r, [y] => (match S[r]? with
    | some (.lst xs) => if xs.length < sizeLine then some (.ok .non (S.set r (.lst (xs ++ [y])))) else none
    | _ => none)
  | _, _ => none
def mPop (x : D) (ds : List D) : M D := fun S => match x, ds with
  | .ref r, [] => (match S[r]? with
    | some (.lst xs) => (match xs[xs.length - 1]? with
      | some y => some (.ok y (S.set r (.lst xs.dropLast)))
      | none => none)
    | _ => none)
  | _, _ => none
def mPopAt (x : D) (ds : List D) : M D := fun S => match x, ds with
  | .ref r, [.int i] => (match S[r]? with
    | some (.lst xs) => if -(2 ^ 63) ≤ i ∧ i < 2 ^ 63 then (match seqIndex? i xs.length with
      | some k => (match xs[k]? with
        | some y => some (.ok y (S.set r (.lst (xs.eraseIdx k))))
        | none => none)
      | none => none) else none
    | _ => none)
  | _, _ => none
def mExtend (x : D) (ds : List D) : M D := fun S => match x, ds with
  | .ref r, [.ref q] => (match S[r]?, S[q]? with
    | some (.lst xs), some (.lst zs) => if xs.length + zs.length ≤ sizeLine then some (.ok .non (S.set r (.lst (xs ++ zs)))) else none
    | _, _ => none)
  | _, _ => none
/-- the class of an instance, where no attribute hides the method -/
def clsM (mt : Str) (x : D) : M Nat := fun S => match x with
  | .obj c _ => some (.ok c S)
  | .ref r => (match S[r]? with
    | some (.obj c fs) => (match fs.lookup mt with
      | none => some (.ok c S)
      | some _ => none)
    | _ => none)
  | _ => none
def Pg.meth (Γ : Pg) (c : Nat) (mt : Str) : Option (Nat × Nat) := match Γ.cls[c]? with
  | some cd => (match cd.meths.lookup mt with
    | some i => (match Γ.fns[i]? with
      | some f => some (i, f.ps.length)
      | none => none)
    | none => none)
  | none => none
def eMeth (Γ : Pg) (C : Calls) (mt : Str) (o : Ev) (a : Av) : Ev := fun ρ => .bind (o ρ) fun x => .bind (clsM mt x) fun c => match Γ.meth c mt with
  | some (i, n) => .bind (a ρ) fun ds => .guard (ds.length + 1 = n) (C.fn i (x :: ds))
  | none => .stuck

section
variable {Γ : Pg} {X : Cx} {G : GW} {W : WX} {C : Calls} {a b c e o i : Expr} {es : List Expr} {pos apos cpos : Pos} {fa fb fo fi : Ev} {ga : Av} {k : Nat}
theorem isKind_ty {T : String} {x : D} {S : Store} {m : List Addr} {F : Hp} {H : Hp} {v : V} (h : isKind T x S = true) (s : Sim G m F S H) (r : relD G m F x v) : tyV G.K T v H := by
  cases x with
  | str z => obtain rfl : v = .str z := r; exact beq_iff_eq.mp h
  | ref q =>
    obtain ⟨ad, rfl, ha⟩ := r
    unfold isKind at h
    simp only at h
    cases ec : S[q]? with
    | none => rw [ec] at h; cases h
    | some cell =>
      rw [ec] at h
      cases cell with
      | lst xs => obtain ⟨vs, q1, _⟩ := s.cel _ _ _ ha ec; exact .inl ⟨beq_iff_eq.mp h, vs, .of q1⟩
      | dct kvs => obtain ⟨vs, q1, _⟩ := s.cel _ _ _ ha ec; exact .inr (.inr (.inl ⟨beq_iff_eq.mp h, .inl ⟨vs, q1⟩⟩))
      | obj _ _ => cases h
  | flst xs =>
    obtain ⟨ad, vs, rfl, q1, _⟩ := r
    exact .inl ⟨beq_iff_eq.mp h, vs, s.sqL q1⟩
  | _ => cases h
/-- a method of a built-in type is as the interpreter's -/
def MtI (X : Cx) (G : GW) (id : String) (mm : D → List D → M D) : Prop := ∃ r, MtR X id r ∧
  ∀ {W : WX} {σ : St} {Q : VK} {m : List Addr} {F : Hp} {S : Store} {H : Hp} {d : D} {ds : List D} {x : V} {xs : List V}, Sim G m F S H → relD G m F d x → relDs G m F ds xs → Run G W σ (relD G) (mm d ds) m F S Q → r x xs H Q
theorem run_if {α β : Type} {rel : List Addr → Hp → α → β → Prop} {σ : St} {Q : β → Hp → Prop} {m : List Addr} {F : Hp} {S : Store} {p : Prop} [Decidable p] {x : M α} (h : Run G W σ rel (fun S => if p then x S else none) m F S Q) : p ∧ Run G W σ rel x m F S Q := by
  obtain ⟨r, q, h⟩ := h
  split at q
  · exact ⟨by assumption, r, q, h⟩
  · cases q
theorem se_bm {T id : String} {name : Str} {mm : D → List D → M D} (hK : X.K = G.K) (mi : MtI X G id mm) (pa : PlainAttrs T) (slot : Slot T name id) (hty : typeOf (.builtin id) = pure (.type "method_descriptor")) (ho : SE X G W o fo) (ha : SA X G W (e :: es) ga)
    (hb : plainBase o = true)
    (hfew : ((backTo cpos (starEach (e :: es) X.env)).all (fun x => !x.1) && (backToKw cpos (keywordEach [] X.env)).all (fun x => x.1.isSome)
      && decide ((e :: es).length + ([] : List Keyword).length + (if ([] : List Keyword).isEmpty then 0 else 1) < 30)) = true)
    (hline : (apos.endLine == cpos.line) = true) (hs : starEach (e :: es) X.env = (false, eval e X.env) :: starEach es X.env) (hpl : (backTo cpos (starEach es X.env)).any (·.1) = false) :
    SE X G W (.Call (.Attribute o name apos) (e :: es) [] cpos) (eM T mm fo ga) := by
  obtain ⟨r, hm, hr⟩ := mi
  refine PEimp (pe_bm pa slot hty hm ho ha (plainBase_eq hb _ _ _) hfew hline hs hpl) fun σ H Q h => ?_
  refine (tM.bind h).imp fun x H1 ⟨m, F, ρ, S, d, s, hρ, hx, rr, q, hq⟩ => ?_
  simp only at q
  by_cases hk : isKind T d S = true
  · rw [if_pos hk] at q
    refine ⟨by rw [hK]; exact isKind_ty hk s hx, ?_⟩
    refine ⟨m, F, ρ, S, s, hρ, (Run.bind ⟨rr, q, hq⟩).imp fun xs H2 ⟨m2, F2, S2, ds, e2, s2, hxs, r2⟩ => ?_⟩
    exact hr s2 (hx.mono e2) hxs r2
  · rw [if_neg hk] at q; cases q
theorem se_bm0 {T id : String} {name : Str} {mm : D → List D → M D} (hK : X.K = G.K) (mi : MtI X G id mm) (pa : PlainAttrs T) (slot : Slot T name id) (hty : typeOf (.builtin id) = pure (.type "method_descriptor")) (ho : SE X G W o fo)
    (hb : plainBase o = true) (hline : (apos.endLine == cpos.line) = true) :
    SE X G W (.Call (.Attribute o name apos) [] [] cpos) (eM T mm fo aNil) := by
  obtain ⟨r, hm, hr⟩ := mi
  refine PEimp (pe_bm0 pa slot hty hm ho (plainBase_eq hb _ _ _) hline) fun σ H Q h => ?_
  refine (tM.bind h).imp fun x H1 ⟨m, F, ρ, S, d, s, hρ, hx, rr, q, hq⟩ => ?_
  simp only at q
  by_cases hk : isKind T d S = true
  · rw [if_pos hk] at q
    exact ⟨by rw [hK]; exact isKind_ty hk s hx, hr s hx relDs.nil (W := W) (σ := σ) ⟨rr, q, hq⟩⟩
  · rw [if_neg hk] at q; cases q
theorem mi_append : MtI X G "list.append" mAppend := ⟨rAppend, mt_append, fun {W σ Q m F S H d ds x xs} s hd hds ⟨rr, q, hq⟩ => by
  unfold mAppend at q
  cases d with
  | ref ri =>
    match ds with
    | [y] =>
      obtain ⟨v, vs, rfl, q1, q2⟩ := hds
      obtain rfl : vs = [] := q2
      obtain ⟨ad, rfl, ha⟩ := hd
      simp only at q
      cases ec : S[ri]? with
      | none => rw [ec] at q; cases q
      | some cell =>
        rw [ec] at q
        cases cell with
        | lst xs =>
          simp only at q
          split at q
          · rename_i hl
            cases q
            obtain ⟨ws, w1, w2⟩ := s.cel _ _ _ ha ec
            exact ⟨ad, ws, v, rfl, rfl, w1, by rw [← w2.length]; exact hl, hq m F _ _ .refl (s.write ha (c := .lst (xs ++ [y])) ⟨_, rfl, w2.append (relDs.cons q1 relDs.nil)⟩) rfl⟩
          · cases q
        | _ => cases q
    | [] => cases q
    | _ :: _ :: _ => cases q
  | _ => cases q⟩
theorem relDs.dropLast {m : List Addr} {F : Hp} {ds : List D} {vs : List V} (h : relDs G m F ds vs) : relDs G m F ds.dropLast vs.dropLast := by
  rw [List.dropLast_eq_take, List.dropLast_eq_take, h.length]
  exact h.take _
theorem relDs.eraseIdx {m : List Addr} {F : Hp} : ∀ {ds : List D} {vs : List V} (n : Nat), relDs G m F ds vs → relDs G m F (ds.eraseIdx n) (vs.eraseIdx n)
  | [], _, _, h => by rw [show _ = [] from h]; rfl
  | _ :: _, _, 0, ⟨_, _, rfl, _, h3⟩ => h3
  | _ :: _, _, n + 1, ⟨w, r, rfl, h2, h3⟩ => relDs.cons h2 (relDs.eraseIdx n h3)
theorem mi_pop : MtI X G "list.pop" mPop := ⟨rPop, mt_pop, fun {W σ Q m F S H d ds x xs} s hd hds ⟨rr, q, hq⟩ => by
  unfold mPop at q
  cases d with
  | ref ri =>
    match ds with
    | [] =>
      obtain rfl : xs = [] := hds
      obtain ⟨ad, rfl, ha⟩ := hd
      simp only at q
      cases ec : S[ri]? with
      | none => rw [ec] at q; cases q
      | some cell =>
        rw [ec] at q
        cases cell with
        | lst xs =>
          simp only at q
          split at q
          · rename_i y hy
            cases q
            obtain ⟨ws, w1, w2⟩ := s.cel _ _ _ ha ec
            obtain ⟨v, g1, g2⟩ := w2.get hy
            exact ⟨ad, ws, v, rfl, rfl, w1, by rw [← w2.length]; exact g1, hq m F _ _ .refl (s.write ha (c := .lst xs.dropLast) ⟨_, rfl, w2.dropLast⟩) g2⟩
          · cases q
        | _ => cases q
    | _ :: _ => cases q
  | _ => cases q⟩
theorem mi_popAt : MtI X G "list.pop" mPopAt := ⟨rPopAt, mt_popAt, fun {W σ Q m F S H d ds x xs} s hd hds ⟨rr, q, hq⟩ => by
  unfold mPopAt at q
  cases d with
  | ref ri =>
    match ds with
    | [.int i] =>
      obtain ⟨v, vs, rfl, q1, q2⟩ := hds
      obtain rfl : vs = [] := q2
      obtain rfl : v = .int i := q1
      obtain ⟨ad, rfl, ha⟩ := hd
      simp only at q
      cases ec : S[ri]? with
      | none => rw [ec] at q; cases q
      | some cell =>
        rw [ec] at q
        cases cell with
        | lst xs =>
          simp only at q
          split at q
          · rename_i hl
            split at q
            · rename_i kk hk
              split at q
              · rename_i y hy
                cases q
                obtain ⟨ws, w1, w2⟩ := s.cel _ _ _ ha ec
                obtain ⟨v, g1, g2⟩ := w2.get hy
                exact ⟨ad, ws, i, kk, v, rfl, rfl, w1, hl.1, hl.2, by rw [← w2.length]; exact hk, g1, hq m F _ _ .refl (s.write ha (c := .lst (xs.eraseIdx kk)) ⟨_, rfl, w2.eraseIdx kk⟩) g2⟩
              · cases q
            · cases q
          · cases q
        | _ => cases q
    | [] => cases q
    | _ :: _ :: _ => simp at q
    | [.non] => cases q
    | [.bl _] => cases q
    | [.str _] => cases q
    | [.tup _] => cases q
    | [.flst _] => cases q
    | [.obj _ _] => cases q
    | [.ref _] => cases q
    | [.fn _] => cases q
    | [.cls _] => cases q
    | [.ty _] => cases q
  | _ => cases q⟩
theorem mi_extend : MtI X G "list.extend" mExtend := ⟨rExtend, mt_extend, fun {W σ Q m F S H d ds x xs} s hd hds ⟨rr, q, hq⟩ => by
  unfold mExtend at q
  cases d with
  | ref ri =>
    match ds with
    | [.ref qi] =>
      obtain ⟨v, vs, rfl, q1, q2⟩ := hds
      obtain rfl : vs = [] := q2
      obtain ⟨bd, rfl, hb⟩ := q1
      obtain ⟨ad, rfl, ha⟩ := hd
      simp only at q
      split at q
      · rename_i xs zs ec ec2
        split at q
        · rename_i hl
          cases q
          obtain ⟨ws, w1, w2⟩ := s.cel _ _ _ ha ec
          obtain ⟨us, u1, u2⟩ := s.cel _ _ _ hb ec2
          exact ⟨ad, bd, ws, us, rfl, rfl, w1, u1, by rw [← w2.length, ← u2.length]; exact hl, hq m F _ _ .refl (s.write ha (c := .lst (xs ++ zs)) ⟨_, rfl, w2.append u2⟩) rfl⟩
        · cases q
      · cases q
    | [] => cases q
    | _ :: _ :: _ => simp at q
    | [.non] => cases q
    | [.bl _] => cases q
    | [.str _] => cases q
    | [.tup _] => cases q
    | [.flst _] => cases q
    | [.obj _ _] => cases q
    | [.int _] => cases q
    | [.fn _] => cases q
    | [.cls _] => cases q
    | [.ty _] => cases q
  | _ => cases q⟩

/-! ### own methods -/
theorem cls_meth (g : GY Γ X G W C k) {σ : St} {mt : Str} {x : D} {v : V} {m : List Addr} {F : Hp} {S : Store} {H : Hp} {f : Nat → M D} {Q : VK} (h : Run G W σ (relD G) (.bind (clsM mt x) fun c => match Γ.meth c mt with
      | some (i, n) => f c
      | none => .stuck) m F S Q) (s : Sim G m F S H) (hx : relD G m F x v) : ∃ c cd i fd ad dx fs, Γ.cls[c]? = some cd ∧ cd.meths.lookup mt = some i ∧ Γ.fns[i]? = some fd ∧ Γ.meth c mt = some (i, fd.ps.length) ∧ v = .ref ad ∧ H ad = some (.ins (G.clA c) dx fs) ∧ fs.lookup mt = none ∧ Run G W σ (relD G) (f c) m F S Q := by
  obtain ⟨r, q, hq⟩ := h
  have hm : ∀ c, (∃ z S', (match Γ.meth c mt with
      | some (i, n) => f c
      | none => M.stuck) S' = some z) → ∃ cd i fd, Γ.cls[c]? = some cd ∧ cd.meths.lookup mt = some i ∧ Γ.fns[i]? = some fd ∧ Γ.meth c mt = some (i, fd.ps.length) := fun c ⟨z, S', e⟩ => by
    cases em : Γ.meth c mt with
    | none => rw [em] at e; cases e
    | some p =>
      have em' := em
      unfold Pg.meth at em
      split at em
      · rename_i cd hcd
        split at em
        · rename_i i hi
          split at em
          · rename_i fd hfd
            cases em
            exact ⟨cd, i, fd, hcd, hi, hfd, rfl⟩
          · cases em
        · cases em
      · cases em
  cases x with
  | obj c xs =>
    have e : M.bind (clsM mt (.obj c xs)) (fun c => match Γ.meth c mt with
      | some (i, n) => f c
      | none => M.stuck) S = (match Γ.meth c mt with
      | some (i, n) => f c
      | none => M.stuck) S := rfl
    rw [e] at q
    obtain ⟨cd, i, fd, h1, h2, h3, h4⟩ := hm c ⟨_, _, q⟩
    rw [h4] at q
    obtain ⟨ad, dx, fs, rfl, q1, q2, q3⟩ := hx
    refine ⟨c, cd, i, fd, ad, dx, fs, h1, h2, h3, h4, rfl, s.sub _ _ q1, ?_, r, q, hq⟩
    have hn := (g.wf.meth c cd mt i h1 h2).2
    rw [g.wf.fields] at q2
    have : cd.fields = Γ.fields c := by unfold Pg.fields; rw [h1]
    rw [this, ← q2] at hn
    cases el : fs.lookup mt with
    | none => rfl
    | some w => exact absurd (List.mem_map.mpr ⟨_, PySem.mem_of_lookup el, rfl⟩) hn
  | ref ri =>
    obtain ⟨ad, rfl, ha⟩ := hx
    unfold M.bind clsM at q
    simp only at q
    cases ec : S[ri]? with
    | none => rw [ec] at q; cases q
    | some cell =>
      rw [ec] at q
      cases cell with
      | obj c fs =>
        simp only at q
        cases el : fs.lookup mt with
        | some w => rw [el] at q; cases q
        | none =>
          rw [el] at q
          simp only at q
          obtain ⟨cd, i, fd, h1, h2, h3, h4⟩ := hm c ⟨_, _, q⟩
          rw [h4] at q
          obtain ⟨dx, ws, w1, w2, w3⟩ := s.cel _ _ _ ha ec
          exact ⟨c, cd, i, fd, ad, dx, ws, h1, h2, h3, h4, rfl, w1, lookup_none2 w2 el, r, q, hq⟩
      | _ => cases q
  | _ => cases q
theorem se_meth (g : GY Γ X G W C k) {mt : Str} (ho : SE X G W o fo) (ha : SA X G W (e :: es) ga) (hb : plainBase o = true)
    (hfew : ((backTo pos (starEach (e :: es) X.env)).all (fun x => !x.1) && (backToKw pos (keywordEach [] X.env)).all (fun x => x.1.isSome)
      && decide ((e :: es).length + ([] : List Keyword).length + (if ([] : List Keyword).isEmpty then 0 else 1) < 30)) = true)
    (hline : (apos.endLine == pos.line) = true) (hst : starEach (e :: es) X.env = (false, eval e X.env) :: starEach es X.env) (hpl : (backTo pos (starEach es X.env)).any (·.1) = false)
    (ht : ∃ pl, eval (.Call (.Attribute o mt apos) (e :: es) [] pos) X.env = (do
      let ov ← eval o X.env
      standAt apos.atName
      let (f, first) ← holding [ov] (getMethod ov mt pl)
      callWith pos f first (backTo pos (starEach (e :: es) X.env)) (backToKw pos (keywordEach [] X.env)))) :
    SE X G W (.Call (.Attribute o mt apos) (e :: es) [] pos) (eMeth Γ C mt fo ga) := by
  obtain ⟨pl, ht⟩ := ht
  refine ⟨fun pins s σ H Q I h => ?_⟩
  refine PySem.W.methodCall_KW (pl := pl) (thn (ho.run pins s σ H _ I (tM.bind h)) fun u s1 ⟨x, H1, I1, rx, m, F, ρ, S, d, s', hρ, hx, r⟩ => ?_) ht
  have r' : Run G W σ (relD G) (.bind (clsM mt d) fun c => match Γ.meth c mt with
      | some (i, n) => (match Γ.meth c mt with
        | some (i, n) => .bind (ga ρ) fun ds => .guard (ds.length + 1 = n) (C.fn i (d :: ds))
        | none => .stuck)
      | none => .stuck) m F S Q := by
    have : (fun c => match Γ.meth c mt with
      | some (i, n) => (match Γ.meth c mt with
        | some (i, n) => M.bind (ga ρ) fun ds => M.guard (ds.length + 1 = n) (C.fn i (d :: ds))
        | none => M.stuck)
      | none => M.stuck) = fun c => match Γ.meth c mt with
      | some (i, n) => M.bind (ga ρ) fun ds => M.guard (ds.length + 1 = n) (C.fn i (d :: ds))
      | none => M.stuck := by
      funext c
      cases Γ.meth c mt <;> rfl
    rw [this]; exact r
  obtain ⟨c, cd, i, fd, ad, dx, fs, h1, h2, h3, h4, rfl, h5, h6, r2⟩ := cls_meth g r' s' hx
  rw [h4] at r2
  obtain rfl : u = Value.ref ad := rx
  have cl := g.wf.cls c cd h1
  have mt' := (g.wf.meth c cd mt i h1 h2).1
  rw [← g.hK] at cl mt'
  refine getmeth_ok I1 h5 cl mt' h6 ?_
  refine PySem.W.callWith_K (first := [.ref ad]) (h₀ := X.base) I.ok.mod.kin mt'.kp (thn (ha.run pos pins s1 σ H1 _ I1 ⟨m, F, ρ, S, s', hρ, r2.bind⟩) fun us s2 ⟨vs, H2, I2, rv, m2, F2, S2, ds, e2, s2', hxs, r3⟩ => ⟨I2.kIn, ?_⟩) hst hpl
  obtain ⟨hl, r3⟩ := r3.guard
  exact fn_run (us := .ref ad :: us) (vs := .ref ad :: vs) g.calls.fn g.room g.tk g.hK h3 I2 (.cons rfl rv) s2' (relDs.cons (hx.mono e2) hxs) hl r3
theorem se_meth0 (g : GY Γ X G W C k) {mt : Str} (ho : SE X G W o fo)
    (ht : ∃ pl, eval (.Call (.Attribute o mt apos) [] [] pos) X.env = (do
      let ov ← eval o X.env
      standAt apos.atName
      let (f, first) ← holding [ov] (getMethod ov mt pl)
      callWith pos f first (backTo pos (starEach [] X.env)) (backToKw pos (keywordEach [] X.env)))) :
    SE X G W (.Call (.Attribute o mt apos) [] [] pos) (eMeth Γ C mt fo aNil) := by
  obtain ⟨pl, ht⟩ := ht
  refine ⟨fun pins s σ H Q I h => ?_⟩
  refine PySem.W.methodCall_KW (pl := pl) (thn (ho.run pins s σ H _ I (tM.bind h)) fun u s1 ⟨x, H1, I1, rx, m, F, ρ, S, d, s', hρ, hx, r⟩ => ?_) ht
  have r' : Run G W σ (relD G) (.bind (clsM mt d) fun c => match Γ.meth c mt with
      | some (i, n) => (match Γ.meth c mt with
        | some (i, n) => .guard (([] : List D).length + 1 = n) (C.fn i [d])
        | none => .stuck)
      | none => .stuck) m F S Q := by
    have : (fun c => match Γ.meth c mt with
      | some (i, n) => (match Γ.meth c mt with
        | some (i, n) => M.guard (([] : List D).length + 1 = n) (C.fn i [d])
        | none => M.stuck)
      | none => M.stuck) = fun c => match Γ.meth c mt with
      | some (i, n) => M.bind (aNil ρ) fun ds => M.guard (ds.length + 1 = n) (C.fn i (d :: ds))
      | none => M.stuck := by
      funext c
      cases Γ.meth c mt <;> rfl
    rw [this]; exact r
  obtain ⟨c, cd, i, fd, ad, dx, fs, h1, h2, h3, h4, rfl, h5, h6, r2⟩ := cls_meth g r' s' hx
  rw [h4] at r2
  obtain rfl : u = Value.ref ad := rx
  have cl := g.wf.cls c cd h1
  have mt' := (g.wf.meth c cd mt i h1 h2).1
  rw [← g.hK] at cl mt'
  refine getmeth_ok I1 h5 cl mt' h6 ?_
  obtain ⟨hl, r3⟩ := r2.guard
  exact PySem.W.callWith_K0 (first := [.ref ad]) I1.kIn mt'.kp (fn_run (us := [.ref ad]) (vs := [.ref ad]) g.calls.fn g.room g.tk g.hK h3 I1 (.cons rfl .nil) s' (relDs.cons hx relDs.nil) hl r3)
end
end MP

/-! MPO: own comparisons, dict displays. -/
namespace MP
open PySem PySem.Spec PyProof.Rows L2

/-- the class of an instance -/
def clsD (S : Store) : D → Option Nat
  | .obj c _ => some c
  | .ref r => (match S[r]? with
    | some (.obj c _) => some c
    | _ => none)
  | _ => none
def blM : D → M Bool
  | .bl b => .ret b
  | _ => .stuck
def okTy (Γ : Pg) (S : Store) (y : D) : Bool := match tyD S y with
  | some (.c c) => decide (c < Γ.cls.length)
  | some _ => true
  | none => false
def cOwn (Γ : Pg) (C : Calls) (mt : Str) (base : D → D → M Bool) (x y : D) : M Bool := fun S => match clsD S x with
  | some c => (match Γ.meth c mt with
    | some (i, n) => if n = 2 ∧ okTy Γ S y = true then M.bind (C.fn i [x, y]) blM S else none
    | none => none)
  | none => base x y S
section
variable {Γ : Pg} {X : Cx} {G : GW} {W : WX} {C : Calls} {k : Nat}
theorem clsD_ok {σ : St} {x : D} {v : V} {m : List Addr} {F : Hp} {S : Store} {H : Hp} {c : Nat} (h : clsD S x = some c) (s : Sim G m F S H) (hx : relD G m F x v) : ∃ ad dx fs, v = .ref ad ∧ H ad = some (.ins (G.clA c) dx fs) := by
  cases x with
  | obj c' xs =>
    cases h
    obtain ⟨ad, dx, fs, rfl, q1, _⟩ := hx
    exact ⟨ad, dx, fs, rfl, s.sub _ _ q1⟩
  | ref ri =>
    obtain ⟨ad, rfl, ha⟩ := hx
    unfold clsD at h
    simp only at h
    split at h
    · rename_i c' fs ec
      cases h
      obtain ⟨dx, ws, w1, _⟩ := s.cel _ _ _ ha ec
      exact ⟨ad, dx, ws, rfl, w1⟩
    · cases h
  | _ => cases h
theorem mlook {Γ : Pg} {c i n : Nat} {mt : Str} (h : Γ.meth c mt = some (i, n)) : ∃ cd fd, Γ.cls[c]? = some cd ∧ cd.meths.lookup mt = some i ∧ Γ.fns[i]? = some fd ∧ n = fd.ps.length := by
  unfold Pg.meth at h
  split at h
  · rename_i cd hcd
    split at h
    · rename_i i hi
      split at h
      · rename_i fd hfd
        cases h
        exact ⟨cd, fd, hcd, hi, hfd, rfl⟩
      · cases h
    · cases h
  · cases h
theorem tyD_cls (S : Store) {y : D} {t : Ty} (h : tyD S y = some t) : (∃ c, t = .c c) ∨ ∃ T, t = .b T ∧ T ∈ bTypes := by
  unfold tyD at h
  split at h
  case h_8 =>
    split at h
    · cases h; exact .inr ⟨_, rfl, by decide⟩
    · cases h; exact .inr ⟨_, rfl, by decide⟩
    · cases h; exact .inl ⟨_, rfl⟩
    · cases h
  all_goals first
    | (cases h; exact .inr ⟨_, rfl, by decide⟩)
    | (cases h; exact .inl ⟨_, rfl⟩)
    | cases h
theorem cs_own {op : CmpOp} {mt : Str} {base : D → D → M Bool} (g : GY Γ X G W C k) (hop : op = .Eq ∨ op = .NotEq) (hmt : mt = (cmpInfo op).2.1) (hb : CmS X G (compareOp op) base) :
    CmW X G W (compareOp op) (cOwn Γ C mt base) := by
  intro pins s σ H x y v u Q m F S d e I rx ry s' hx hy ⟨r, q, h⟩
  unfold cOwn at q
  cases ec : clsD S d with
  | none => rw [ec] at q; exact hb W pins s σ H x y v u Q m F S d e I rx ry s' hx hy ⟨r, q, h⟩
  | some c =>
    rw [ec] at q
    simp only at q
    cases em : Γ.meth c mt with
    | none => rw [em] at q; cases q
    | some p =>
      obtain ⟨i, n⟩ := p
      rw [em] at q
      simp only at q
      split at q
      case isFalse => cases q
      rename_i hn
      obtain ⟨rfl, hty⟩ := hn
      obtain ⟨cd, fd, h1, h2, h3, h4⟩ := mlook em
      obtain ⟨ad, dx, fs, rfl, hH⟩ := clsD_ok (σ := σ) ec s' hx
      obtain rfl : v = Value.ref ad := rx
      obtain ⟨mA, J, _⟩ := ins_get I.hok hH
      obtain ⟨od, J, _⟩ := J.look
      obtain ⟨mm, hF⟩ := I.fr
      obtain ⟨t, ht, hlt⟩ : ∃ t, tyD S e = some t ∧ ∀ c', t = .c c' → c' < Γ.cls.length := by
        unfold okTy at hty
        split at hty
        · rename_i c2 e2
          exact ⟨_, e2, fun c' z => by cases z; exact of_decide_eq_true hty⟩
        · rename_i t hn e2
          exact ⟨t, by first | exact e2 | rfl, fun c' z => by subst z; exact absurd (by first | exact e2 | rfl) (hn c')⟩
        · cases hty
      have hmeth := (g.wf.meth c cd mt i h1 h2).1
      rw [← g.hK] at hmeth
      -- the other's type
      have hlook : ∃ tb, PySem.W.Looks (model X.prog X.w) s.heap (typeOf u) tb ∧ PySem.W.notFirst X.K (G.clA c) tb = true := by
        have ty := tyD_ok g.wf s' hy ht hlt
        rw [← g.hK] at ty
        obtain ⟨P, Z, p, _⟩ := kit_of I ry ty
        refine ⟨_, Z.ty _ _ I.kIn p, ?_⟩
        rcases tyD_cls S ht with ⟨c', rfl⟩ | ⟨T, rfl, hT⟩
        · have hc' := hlt c' rfl
          by_cases hcc : c = c'
          · subst hcc; simp [Ty.val, PySem.W.notFirst]
          · have := g.wf.sub c c' cd _ h1 (List.getElem?_eq_getElem hc') hcc
            rw [← g.hK] at this
            simp [Ty.val, PySem.W.notFirst, this]
        · have : PySem.W.subIn X.K (.type T) (.ref (G.clA c)) = some false := by
            have hall : ∀ T ∈ bTypes, (fastBuiltinMro T).map (·.contains (.ref (G.clA c))) = some false := by
              intro T hT
              simp only [bTypes, List.mem_cons, List.not_mem_nil, or_false] at hT
              rcases hT with rfl | rfl | rfl | rfl | rfl | rfl | rfl <;> rfl
            exact hall T hT
          simp [Ty.val, PySem.W.notFirst, this]
      obtain ⟨tb, hlk, hnf⟩ := hlook
      have hgo : wpAny (model X.prog X.w) X.A (richCompare op (.ref ad) u) (EP X pins σ fun z H' => ∃ k, z = .bl k ∧ Q k H') X.xe s := by
        refine PySem.W.cmp_K (tb := tb) g.room.units0 hF I.ok.mod.kin J hlk hnf (by rw [← hmt]; exact hmeth.at_) hmeth.fn ?_
        have hrun : Run G W σ (relD G) (C.fn i [d, e]) m F S (fun z H' => ∃ k, z = .bl k ∧ Q k H') := by
          have := Run.bind (G := G) (W := W) (σ := σ) (rel := relD G) (rel' := relB) (x := C.fn i [d, e]) (f := blM) (m := m) (F := F) (S := S) (Q := Q) ⟨r, q, h⟩
          refine this.imp fun b H' ⟨m2, F2, S2, a, e2, s2, ha, r2⟩ => ?_
          cases a with
          | bl bb =>
            obtain rfl : b = .bl bb := ha
            exact ⟨bb, rfl, r2.ret s2 rfl⟩
          | _ => exact r2.stuck.elim
        refine thn (fn_run (us := [.ref ad, u]) (vs := [.ref ad, y]) g.calls.fn g.room g.tk g.hK h3 I (.cons rfl (.cons ry .nil)) s' (relDs.cons hx (relDs.cons hy relDs.nil)) (by rw [← h4]; rfl) hrun) fun w s2 hw => ?_
        obtain ⟨z, H2, I2, rz, kk, ez, hq⟩ := id hw
        subst ez
        cases rz
        exact hw
      rcases hop with rfl | rfl
      · exact hgo
      · exact hgo
end
end MP

/-! MPP: dict displays, `in`. -/
namespace MP
open PySem PySem.Spec PyProof.Rows L2

def dPairs : List (Ev × Ev) → En → M (List (Key × D))
  | [], _ => .ret []
  | (k, v) :: r, ρ => .bind (k ρ) fun x => .bind (v ρ) fun y => match keyD x with
    | some kk => .bind (dPairs r ρ) fun l => .ret ((kk, y) :: l)
    | none => .stuck
def mergeD (kvs more : List (Key × D)) : List (Key × D) := more.foldl (fun acc kv => putD acc kv.1 kv.2) kvs
def fillD (r : Nat) (l : List (Key × D)) : M D := fun S => match S[r]? with
  | some (.dct []) => if l.length ≤ 15 then some (.ok (.ref r) (S.set r (.dct (mergeD [] l)))) else none
  | _ => none
def eDct (ps : List (Ev × Ev)) : Ev := fun ρ S => M.bind (dPairs ps ρ) (fillD S.length) (S ++ [.dct []])
def eDct0 : Ev := fun _ S => some (.ok (.ref S.length) (S ++ [.dct []]))
/-- x in c: a dict's keys -/
def cIn (x c : D) : M Bool := fun S => match c with
  | .ref r => (match S[r]? with
    | some (.dct kvs) => (match keyD x with
      | some k => some (.ok (valD kvs k).isSome S)
      | none => none)
    | _ => none)
  | _ => none
section
variable {Γ : Pg} {X : Cx} {G : GW} {W : WX} {C : Calls} {k : Nat} {pos : Pos}
def relP (G : GW) : List Addr → Hp → List (Key × D) → List (V × V) → Prop := fun m F l ps => ∃ kvs : List (Key × V), ps = kvs.map (fun kv => (kV kv.1, kv.2)) ∧ l.map (·.1) = kvs.map (·.1) ∧ relDs G m F (l.map (·.2)) (kvs.map (·.2))
abbrev trP (G : GW) (W : WX) (ps : List (Ev × Ev)) : List (TE × TE) := ps.map fun p => (tE G W p.1, tE G W p.2)
theorem tPairs_imp : ∀ {trs : List (TE × TE)} {σ : St} {H : Hp} {Q Q' : List (V × V) → Hp → Prop}, (∀ tr ∈ trs, (∀ σ H (R R' : VK), (∀ v H, R v H → R' v H) → tr.1 σ H R → tr.1 σ H R') ∧ (∀ σ H (R R' : VK), (∀ v H, R v H → R' v H) → tr.2 σ H R → tr.2 σ H R')) → (∀ ps H, Q ps H → Q' ps H) → tPairs trs σ H Q → tPairs trs σ H Q'
  | [], _, _, _, _, _, q, h => q _ _ h
  | (a, b) :: r, σ, H, Q, Q', hm, q, h => (hm _ List.mem_cons_self).1 _ _ _ _ (fun x H1 h1 => (hm _ List.mem_cons_self).2 _ _ _ _ (fun y H2 h2 => tPairs_imp (fun tr ht => hm tr (List.mem_cons_of_mem _ ht)) (fun ps H3 h3 => q _ _ h3) h2) h1) h
theorem tPairs_of : ∀ {ps : List (Ev × Ev)} {σ : St} {H : Hp} {Q : List (V × V) → Hp → Prop} {m : List Addr} {F : Hp} {ρ : En} {S : Store}, Sim G m F S H → relE G m F ρ σ → Run G W σ (relP G) (dPairs ps ρ) m F S Q → tPairs (trP G W ps) σ H Q
  | [], σ, H, Q, m, F, ρ, S, s, hρ, h => h.ret s ⟨[], rfl, rfl, relDs.nil⟩
  | (k, v) :: r, σ, H, Q, m, F, ρ, S, s, hρ, h => by
    refine ⟨m, F, ρ, S, s, hρ, (Run.bind (rel := relD G) h).imp fun x H1 ⟨m1, F1, S1, dx, e1, s1, hx, h1⟩ => ?_⟩
    refine ⟨m1, F1, ρ, S1, s1, hρ.mono e1, (Run.bind (rel := relD G) h1).imp fun y H2 ⟨m2, F2, S2, dy, e2, s2, hy, h2⟩ => ?_⟩
    cases ek : keyD dx with
    | none => rw [ek] at h2; exact h2.stuck.elim
    | some kk =>
      rw [ek] at h2
      have := keyD_kV ek hx
      subst this
      refine tPairs_of (ps := r) s2 ((hρ.mono e1).mono e2) ((Run.bind (rel := relP G) h2).imp fun l H3 ⟨m3, F3, S3, dl, e3, s3, ⟨kvs, hk1, hk2, hk3⟩, h3⟩ => ?_)
      subst hk1
      exact h3.ret s3 ⟨(kk, y) :: kvs, rfl, by simp [hk2], relDs.cons (hy.mono e3) hk3⟩
theorem mergeD_rel {m : List Addr} {F : Hp} : ∀ {l : List (Key × D)} {kvs : List (Key × V)} {a : List (Key × D)} {b : List (Key × V)}, l.map (·.1) = kvs.map (·.1) → relDs G m F (l.map (·.2)) (kvs.map (·.2)) → a.map (·.1) = b.map (·.1) → relDs G m F (a.map (·.2)) (b.map (·.2)) →
    (mergeD a l).map (·.1) = (mergeK b kvs).map (·.1) ∧ relDs G m F ((mergeD a l).map (·.2)) ((mergeK b kvs).map (·.2))
  | [], [], a, b, _, _, h1, h2 => ⟨h1, h2⟩
  | [], _ :: _, _, _, h, _, _, _ => by simp at h
  | _ :: _, [], _, _, h, _, _, _ => by simp at h
  | (k, d) :: l, (k', v) :: kvs, a, b, h, r, h1, h2 => by
    obtain ⟨v', vs', e, r1, r2⟩ := r
    simp only [List.map_cons, List.cons.injEq] at h e
    obtain ⟨hk, h⟩ := h
    obtain ⟨e1, e2⟩ := e
    subst hk e1 e2
    obtain ⟨p1, p2⟩ := putD_rel (kk := k) r1 h1 h2
    exact mergeD_rel (l := l) (kvs := kvs) h r2 p1 p2
theorem tE_mono {f : Ev} : ∀ σ H (R R' : VK), (∀ v H, R v H → R' v H) → tE G W f σ H R → tE G W f σ H R' := fun σ H R R' q h => h.imp q
theorem se_dct {keys : List (Option Expr)} {values : List Expr} {ps : List (Ev × Ev)} (h : PPs X pos keys values (trP G W ps)) (hall : keys.all (·.isSome) = true) (hl : keys.length = values.length) (h0 : keys ≠ []) (h15 : keys.length ≤ 15) : SE X G W (.Dict keys values pos) (eDct ps) := by
  refine PEimp (pe_disp h hall hl h0 h15) fun σ H Q h => ?_
  intro p hp
  obtain ⟨m, F, ρ, S, s, hρ, r⟩ := h
  obtain ⟨s1, e1⟩ := s.newC (c := .dct []) (o := .dK []) hp ⟨[], rfl, rfl, relDs.nil⟩
  have r' : Run G W σ (relD G) (M.bind (dPairs ps ρ) (fillD S.length)) (m ++ [p]) F (S ++ [.dct []]) Q := by
    obtain ⟨rr, q, hq⟩ := r
    refine ⟨rr, q, ?_⟩
    cases rr with
    | ok d S' => exact fun m' F' H' b e2 => hq m' F' H' b (e1.trans e2)
    | ex x S' => exact fun m' F' H' b ws e2 => hq m' F' H' b ws (e1.trans e2)
  refine tPairs_of s1 (hρ.mono e1) ((Run.bind (rel := relP G) r').imp fun l H2 ⟨m2, F2, S2, dl, e2, s2, ⟨kvs, hk1, hk2, hk3⟩, rr, q, hq⟩ => ?_)
  subst hk1
  unfold fillD at q
  split at q
  · rename_i ec
    split at q
    · rename_i hl
      cases q
      have ha : m2[S.length]? = some p := e2.pre _ _ (by rw [← s.len]; simp)
      obtain ⟨ws, w1, w2, w3⟩ := s2.cel _ _ _ ha ec
      have hws : ws = [] := by
        cases ws with
        | nil => rfl
        | cons _ _ => simp at w2
      subst hws
      obtain ⟨p1, p2⟩ := mergeD_rel (a := []) (b := []) hk2 hk3 rfl relDs.nil
      have hlen : kvs.length ≤ 15 := by
        have := congrArg List.length hk2
        simp only [List.length_map] at this
        rw [← this]; exact hl
      exact ⟨w1, kvs, rfl, hlen, hq m2 F2 _ _ .refl (s2.write ha (c := .dct (mergeD [] dl)) ⟨_, rfl, p1, p2⟩) ⟨p, rfl, ha⟩⟩
    · cases q
  · cases q
theorem se_dct0 : SE X G W (.Dict [] [] pos) eDct0 := by
  refine PEimp pe_dnewK fun σ H Q ⟨m, F, ρ, S, s, hρ, r, q, hq⟩ => ?_
  intro p hp
  cases q
  obtain ⟨s1, e1⟩ := s.newC (c := .dct []) (o := .dK []) hp ⟨[], rfl, rfl, relDs.nil⟩
  exact hq _ F _ _ e1 s1 ⟨p, rfl, by rw [← s.len]; simp⟩
theorem cs_in (hu : X.A.units + 200 < cLine) : CmS X G (compareOp .In) cIn := by
  intro W pins s σ H x y v u Q m F S d e I rx ry s' hx hy ⟨r, q, h⟩
  unfold cIn at q
  cases e with
  | ref ri =>
    obtain ⟨a, rfl, ha⟩ := hy
    simp only at q
    cases ec : S[ri]? with
    | none => rw [ec] at q; cases q
    | some cell =>
      rw [ec] at q
      cases cell with
      | dct kvs =>
        simp only at q
        cases ek : keyD d with
        | none => rw [ek] at q; cases q
        | some kk =>
          rw [ek] at q
          cases q
          obtain ⟨ws, w1, w2, w3⟩ := s'.cel _ _ _ ha ec
          have := keyD_kV ek hx
          subst this
          obtain rfl : u = Value.ref a := ry
          refine d_in (by omega) I (.k w1) rx fun s3 I3 => ⟨.bl _, H, I3, rfl, _, rfl, ?_⟩
          have hb : (valD kvs kk).isSome = (valV ws kk).isSome := by
            rcases valD_rel (k := kk) w2 w3 with ⟨q1, q2⟩ | ⟨_, _, q1, q2, _⟩
            · rw [q1, q2]; rfl
            · rw [q1, q2]; rfl
          rw [← hb]
          exact h m F H _ .refl s' rfl
      | _ => cases q
  | _ => cases q
end
end MP

/-! MPRev: x[::-1] of lists and tuples. -/
namespace MP
open PySem PySem.Spec PyProof.Rows L2
theorem fmc {α β : Type} {f g : α → Option β} : ∀ {l : List α}, (∀ x ∈ l, f x = g x) → l.filterMap f = l.filterMap g
  | [], _ => rfl
  | a :: l, h => by
    have h1 := h a (by simp)
    have h2 := fmc (l := l) fun x hx => h x (by simp [hx])
    simp only [List.filterMap_cons, h1, h2]
section
variable {prog : Program} {w : World} {A : Around} {E : Value → Shared → Prop} {s : Shared}
theorem places_rev (n : Nat) : Builtin.Slice.slicePlaces ((n : Int) - 1) (-1) (-1) = n := by
  unfold Builtin.Slice.slicePlaces
  have h1 : ¬ ((-1 : Int) > 0) := by omega
  have h2 : (-(-1) : Int) = 1 := by decide
  simp only [h1, if_false, h2, Int.ediv_one]
  split <;> omega
theorem applied_rev {sl : Addr} {vs : Value} {n : Nat} {Q : Int × Int × Nat → Shared → Prop} (hs : s.heap.IsSliceOf sl .none .none vs) (ps : IsPart vs (some (-1)))
    (h : Q ((n : Int) - 1, -1, n) s) : wpAny (model prog w) A (Builtin.Slice.sliceApplied (.ref sl) (pure (n : Int))) Q E s := by
  obtain ⟨os, hos, hcs, hds⟩ := id hs
  unfold Builtin.Slice.sliceApplied Builtin.Slice.sliceFields
  refine wpAny_bind (wpAny_bind (wpAny_field hos hds (x := .none) rfl (wpAny_bind (wpAny_field hos hds (x := .none) rfl (wpAny_bind (wpAny_field hos hds (x := vs) rfl (wpAny_pure ?_)))))))
  refine wpAny_bind (HT.slicePart_ ps ?_)
  show wpAny _ _ (if ((-1 : Int) == 0) = true then _ else _) _ _ s
  rw [if_neg (by decide)]
  refine wpAny_bind (HT.slicePart_ .none (wpAny_bind (HT.slicePart_ .none (wpAny_bind (wpAny_pure ?_)))))
  show wpAny _ _ (pure (((n : Int) - 1), (-1 : Int), Builtin.Slice.slicePlaces ((n : Int) - 1) (-1) (-1))) _ _ s
  rw [places_rev]
  exact wpAny_pure h
theorem pick_rev (xs : Array Value) : ((List.range xs.size).filterMap fun (m : Nat) => xs[(((xs.size : Int) - 1) + (m : Int) * (-1)).toNat]?).toArray = xs.toList.reverse.toArray := by
  have e : ∀ m ∈ List.range xs.size, xs[(((xs.size : Int) - 1) + (m : Int) * (-1)).toNat]? = ((xs[·]?) ∘ fun k => xs.size - 1 - k) m := fun m hm => by
    have := List.mem_range.mp hm
    show _ = xs[xs.size - 1 - m]?
    congr 1
    omega
  rw [fmc e, ← List.filterMap_map, PySem.W.krv_range, List.filterMap_reverse, PySem.W.krv_all]
theorem getItem_tuple_rev {t sl : Addr} {items : Array Value} {vs : Value} {Q : Value → Shared → Prop} (ht : IsTup s.heap t items) (hs : s.heap.IsSliceOf sl .none .none vs) (ps : IsPart vs (some (-1)))
    (h : Q (.ref s.heap.objs.size) { s with heap := s.heap.push { cls := .type "tuple", data := .seq items.toList.reverse.toArray } }) (hsz : items.size ≤ sizeLine) : wpAny (model prog w) A (getItem (.ref t) (.ref sl)) Q E s := by
  have htake : sizeOk (.seq items.toList.reverse.toArray) := by
    show items.toList.reverse.toArray.size ≤ sizeLine
    rw [List.size_toArray, List.length_reverse, Array.length_toList]
    exact hsz
  obtain ⟨os, hos, hcs, hds⟩ := id hs
  have hTs : s.TypeIs (.ref sl) "slice" := ⟨os, hos, hcs⟩
  unfold getItem
  try with_reducible refine wpAny_holding ?_
  first | refine wpAny_bind (wpAny_pure ?_) | skip
  refine wpAny_bind (wpAny_sequenceKey ht.typeIs (by decide) ?_)
  refine wpAny_bind (wpAny_callSpecial?_slot (name := Str.ofString "__getitem__") ht.typeIs PyProof.Rows.slot_tuple_getitem
    (wpAny_call_entry PyProof.Rows.slot_tuple_getitem ht.typeIs entry_tuple_getitem ?_ (args_tuple_getitem _ _)))
  show wpAny _ _ (Builtin.Tuple.tupleItemsOf (.ref t) >>= _) _ _ s
  refine wpAny_bind (tupleItemsOf_ ht ?_)
  refine wpAny_bind (wpAny_typeOf hTs ?_)
  rw [if_pos (by decide)]
  refine wpAny_bind (applied_rev hs ps ?_)
  have hno : ¬ ((((items.size : Int) - 1) == 0 && (-1 : Int) == 1 && items.size == items.size) = true) := by
    intro q
    rw [Bool.and_eq_true, Bool.and_eq_true] at q
    exact absurd q.1.2 (by decide)
  show wpAny _ _ (if (((items.size : Int) - 1) == 0 && (-1 : Int) == 1 && items.size == items.size) = true then _ else _) _ _ s
  rw [if_neg hno, pick_rev]
  first
    | exact wpAny_bind (m := Builtin.Tuple.tupleExact _) (wpAny_newObj_type (wpAny_pure ⟨_, rfl, wpAny_pure h⟩) htake)
    | exact wpAny_bind (m := Builtin.Tuple.tupleExact _) (wpAny_newObj_type (wpAny_bind (wpAny_pure (wpAny_pure ⟨_, rfl, wpAny_pure h⟩))) htake)
    | exact wpAny_bind (wpAny_bind (m := Builtin.Tuple.tupleExact _) (wpAny_newObj_type (wpAny_pure (wpAny_pure ⟨_, rfl, wpAny_pure h⟩)) htake))
    | exact wpAny_bind (wpAny_bind (m := Builtin.Tuple.tupleExact _) (wpAny_newObj_type (wpAny_pure ⟨_, rfl, wpAny_pure h⟩) htake))
end
def rRev (K : PySem.W.Frag) (x : V) (H1 : Hp) (Q : VK) : Prop := ∃ a xs, x = .ref a ∧ ((SqL K H1 a xs ∧ ∀ p, H1 p = none → Q (.ref p) (upd H1 p (.lst xs.reverse))) ∨ (SqT K H1 a xs ∧ ∀ p, H1 p = none → Q (.ref p) (upd H1 p (.tup xs.reverse))))
def tRev (K : PySem.W.Frag) (te : TE) : TE := fun σ H Q => te σ H fun x H1 => rRev K x H1 Q
theorem pe_rev {X : Cx} {e : Expr} {te : TE} {k : Nat} {p1 p2 p3 pos : Pos} (he : PE X e te) : PE X (.Subscript e (.Slice none none (some (.UnaryOp .USub (.Constant (.int 1) k p1) p2)) p3) pos) (tRev X.K te) := by
  refine ⟨fun pins s σ H Q I h => ?_⟩
  refine Subscript_ (thn (he.run pins s σ H _ I h) fun v s1 ⟨x, H1, I1, r1, q1⟩ => ?_)
  obtain ⟨a, xs, ex, q⟩ := q1
  subst ex
  cases r1
  have hst : PO X (some (.UnaryOp .USub (.Constant (.int 1) k p1) p2)) (tPart (tUn (rU fun i => .int (-i)) (tC (.int 1)))) := po_some (pe_un un_neg pe_int)
  refine wpAny_Slice ?_
  rw [evalPart_none]
  refine wpAny_pure (wpAny_pure ?_)
  refine thn (hst.run pins s1 σ H1 (fun o H4 => o = some (-1) ∧ H4 = H1) I1 ⟨1, rfl, -1, rfl, rfl, rfl⟩) fun vs s4 ⟨o, H4, I4, ps, eo, e4⟩ => ?_
  subst eo e4
  have I5 : Inv X pins σ H4 { s4 with heap := s4.heap.push { cls := .type "slice", data := .fields #[.none, .none, vs] } } := I4.kept (t' := s4.toks) fun b ob q => Heap.get?_push_of_some _ q
  show wpAny (model X.prog X.w) X.A (subscriptTail e (.Slice none none (some (.UnaryOp .USub (.Constant (.int 1) k p1) p2)) p3) (.ref a) (.ref s4.heap.objs.size)) (EP X pins σ Q) X.xe { s4 with heap := s4.heap.push { cls := .type "slice", data := .fields #[.none, .none, vs] } }
  rcases q with ⟨hx, q⟩ | ⟨hx, q⟩
  · obtain ⟨its, r, ht, hz⟩ := I5.list hx
    have hlen := r.length
    refine tail_any (ops := [.ref a, .ref s4.heap.objs.size]) ht.isList.typeIs (PySem.slot_list_getitem.lookup) ?_ (by with_unfolding_all rfl)
    refine wpAny_getItem_list_slice ht.isList (Heap.IsSliceOf.new _ .none .none vs) .none .none ps (by decide) ?_ (by rw [List.size_toArray]; omega)
    rw [PySem.W.krv_pick]
    refine ⟨.ref _, _, I5.laid (t' := s4.toks) (o := .lst xs.reverse) (fun b ob q => Heap.get?_push_of_some _ q) (Nat.le_refl _) ?_, rfl, q _ (I5.hok.fresh (Nat.le_refl _))⟩
    exact ⟨by rw [List.length_reverse]; exact hz, _, 0, r.reverse, Heap.get?_push_size _ rfl⟩
  · obtain ⟨its, r, ht, hz⟩ := I5.tuple hx
    have hlen := r.length
    refine tail_any (ops := [.ref a, .ref s4.heap.objs.size]) ht.typeIs (PyProof.Rows.slot_tuple_getitem.lookup) ?_ (by with_unfolding_all rfl)
    refine getItem_tuple_rev ht (Heap.IsSliceOf.new _ .none .none vs) ps ?_ (by rw [List.size_toArray]; omega)
    refine ⟨.ref _, _, I5.laid (t' := s4.toks) (o := .tup xs.reverse) (fun b ob q => Heap.get?_push_of_some _ q) (Nat.le_refl _) ?_, rfl, q _ (I5.hok.fresh (Nat.le_refl _))⟩
    exact ⟨by rw [List.length_reverse]; exact hz, _, r.reverse, IsTup.new _ _⟩
/-- .. of the interpreter's values -/
def oRev : D → M D
  | .tup xs => .ret (.tup xs.reverse)
  | .flst xs => newL xs.reverse
  | .ref r => .bind (getL r) fun xs => newL xs.reverse
  | _ => .stuck
section
variable {X : Cx} {G : GW} {W : WX} {a : Expr} {pos p1 p2 p3 : Pos} {fa : Ev} {k kk : Nat}
theorem se_rev (g : GX X G W k) (ha : SE X G W a fa) : SE X G W (.Subscript a (.Slice none none (some (.UnaryOp .USub (.Constant (.int 1) kk p1) p2)) p3) pos) (eUn oRev fa) := by
  refine PEimp (pe_rev ha) fun σ H Q h => ?_
  refine (tM.bind (rel := relD G) h).imp fun x H1 ⟨m, F, ρ, S, d, s, e, hx, r⟩ => ?_
  cases d with
  | tup xs =>
    obtain ⟨ad, vs, rfl, q1, q2⟩ := hx
    exact ⟨ad, vs, rfl, .inr ⟨by rw [g.hK]; exact s.sqT q1, run_tup r s q2.reverse⟩⟩
  | flst xs =>
    obtain ⟨ad, vs, rfl, q1, q2⟩ := hx
    exact ⟨ad, vs, rfl, .inl ⟨by rw [g.hK]; exact s.sqL q1, run_newL r s q2.reverse⟩⟩
  | ref i =>
    obtain ⟨ad, rfl, q1⟩ := hx
    obtain ⟨xs, vs, _, q2, q3, h4⟩ := run_getL r s q1
    exact ⟨ad, vs, rfl, .inl ⟨.of q2, run_newL h4 s q3.reverse⟩⟩
  | non => exact (Run.stuck (α := D) (rel := relD G) r).elim
  | bl _ => exact (Run.stuck (α := D) (rel := relD G) r).elim
  | int _ => exact (Run.stuck (α := D) (rel := relD G) r).elim
  | str _ => exact (Run.stuck (α := D) (rel := relD G) r).elim
  | obj _ _ => exact (Run.stuck (α := D) (rel := relD G) r).elim
  | fn _ => exact (Run.stuck (α := D) (rel := relD G) r).elim
  | cls _ => exact (Run.stuck (α := D) (rel := relD G) r).elim
  | ty _ => exact (Run.stuck (α := D) (rel := relD G) r).elim
end
end MP

/-! MPRng: list(range(n)). -/
namespace MP
open PySem PySem.Spec PyProof.Rows L2
instance (a b : Int) : Decidable (RgOk a b) := by unfold RgOk; infer_instance
def eLstRg (e : Ev) : Ev := fun ρ => .bind (e ρ) fun x => match x with
  | .int j => .guard (RgOk 0 j) (newL (rngL 0 j))
  | _ => .stuck
section
variable {Γ : Pg} {X : Cx} {G : GW} {W : WX} {a : Expr} {pos p p2 pos2 : Pos} {fa : Ev} {k : Nat}
theorem se_lstRg (g : GX X G W k) (hg : Gl X "list") (hm : X.mg "list" = none) (hg2 : Gl X "range") (hm2 : X.mg "range" = none) (ha : SE X G W a fa) (hs : noStar a = true) :
    SE X G W (.Call (.Name "list" p) [.Call (.Name "range" p2) [a] [] pos2] [] pos) (eLstRg fa) := by
  refine PEimp (pe_listRg g.calm hg hm (prg_1 hg2 hm2 ha (starEach_one hs)) rfl) fun σ H Q h => ?_
  refine (tM.bind (rel := relD G) h).imp fun x H1 ⟨m, F, ρ, S, d, s, e, hx, r⟩ => ?_
  cases d with
  | int j =>
    cases hx
    obtain ⟨hok, r⟩ := Run.guard r
    refine ⟨j, rfl, hok, run_newL r s ?_⟩
    refine relDs.of_get (by rw [rngL_length, rgV_length]) fun i d v h1 h2 => ?_
    unfold rngL at h1
    unfold rgV at h2
    rw [List.getElem?_map] at h1 h2
    cases q : (List.range (j - 0).toNat)[i]? with
    | none => rw [q] at h1; cases h1
    | some n =>
      rw [q] at h1 h2
      cases h1; cases h2
      rfl
  | _ => exact (Run.stuck (α := D) (rel := relD G) r).elim
end
end MP

/-! MPY: lambdas as objects: made, called with arguments, their captured cells. -/
namespace MP
open PySem PySem.Spec PyProof.Rows L2 LamX NdefX
/-- the object at f is the lambda F with the body e (F's own body is not looked at) -/
def LnO (f : Addr) (F : NF) (e : Expr) : HO := .ext fun h => ∃ pm ctv : Value, h.get? f = some (PySem.W.kla_obj F.name F.qual F.params e F.scope F.cl pm F.c ctv)
theorem lnO_at {P : Program} {w : World} {H : Hp} {h : Heap} {f : Addr} {F : NF} {b : Expr} (hok : HOk P w H h) (e : H f = some (LnO f F b)) : ∃ pm ctv : Value, h.get? f = some (PySem.W.kla_obj F.name F.qual F.params b F.scope F.cl pm F.c ctv) := by
  obtain ⟨z, _, _⟩ := hok f _ e
  exact z
section
variable {X : Cx} {pins : List (Addr × Obj)} {σ : L2.St} {H : Hp} {s : Shared}
theorem inv_ln {F : NF} {b : Expr} {o : Obj} {t' : Nat} {pm ctv : Value} (I : Inv X pins σ H s) (ho : o = PySem.W.kla_obj F.name F.qual F.params b F.scope F.cl pm F.c ctv) :
    Inv X pins σ (upd H s.heap.objs.size (LnO s.heap.objs.size F b)) { s with heap := s.heap.push o, toks := t' } := by
  subst ho
  refine I.laid (a := s.heap.objs.size) (fun b u e => Heap.get?_push_of_some _ e) (Nat.le_refl _) ?_
  have e : (s.heap.push (PySem.W.kla_obj F.name F.qual F.params b F.scope F.cl pm F.c ctv)).get? s.heap.objs.size = some (PySem.W.kla_obj F.name F.qual F.params b F.scope F.cl pm F.c ctv) := Heap.get?_push_size _ rfl
  exact ⟨⟨pm, ctv, e⟩, ⟨_, e⟩, fun h1 h2 ⟨p, t, z⟩ st => ⟨p, t, st _ z⟩⟩
theorem lam_makeL {T : List (Addr × Str)} {c P : Addr} {params : Arguments} {body : Expr} {scope : Scope} {pos : Pos} {E : Value → Shared → Prop} {Q : Value → Shared → Prop} (I : Inv X pins σ H s) (TB : TabB X.base X.mg c P) (hcode : X.env.code = .ref c)
    (hm : (P, X.env.qual ++ "<lambda>") ∈ T) (hu : ∀ p ∈ T, p.1 = P → p.2 = X.env.qual ++ "<lambda>") (hT : Tabs T H) (hdef : defaultsOf params X.env = ([], [])) (hfree : ∀ y ∈ scope.names, y.2 = .free → ∃ c, X.env.cells.lookup y.1 = some c)
    (h : ∀ (f c' : Addr) (H1 : Hp) (s' : Shared), Inv X pins σ H1 s' → (∀ b o, H b = some o → b ≠ P → H1 b = some o) → (∀ b, H1 b = Option.none → H b = Option.none) → Tabs T H1 → H f = none →
      H1 f = some (LnO f ⟨"<lambda>", X.env.qual ++ "<lambda>", params, [], scope, cloFrom X.env.cells scope.names [], c'⟩ body) → H1 c' = some (CodeO c' (X.env.qual ++ "<lambda>")) → Q (.ref f) s') :
    wpAny (model X.prog X.w) X.A (eval (.Lambda params body scope pos) X.env) Q E s := by
  obtain ⟨ps, hP, ht, ha⟩ := hT _ hm
  refine PySem.W.kla_eval hdef ?_
  have bP : s.heap.BuiltinsAt X.mg P := TB.bm.keeps I.bk
  have hP' : s.heap.get? P = some { cls := .none, data := .fields ps } := I.hok P _ hP
  cases hc : codeAmong pos ps.toList with
  | none =>
    refine PySem.W.kla_makeFunction (mg := X.mg) (c := c) (P := P) (ps := ps) (closure_ok hfree) I.ok.glob (I.mod.glob.keeps I.bk) hcode (TB.code.keeps I.bk) hP' ht hc TB.gP bP fun c' ctv h' tk hx hge hlt hrec htb => ?_
    obtain ⟨c2, oc, vs, t, e2, hoc, hd, hv⟩ := hrec
    cases e2
    have nC : H c' = none := I.hok.fresh hge
    have I1 := inv_table (t' := tk) (more := #[rawInt pos.line, rawInt pos.col, .ref c']) (h' := h') I hP (fun b o hb e => hx b o hb e) htb hge ⟨oc, vs, t, hoc, hd, hv⟩
    have hE : ExtN H (upd (upd H P (.tbl (ps ++ #[rawInt pos.line, rawInt pos.col, .ref c']))) c' (CodeO c' (X.env.qual ++ "<lambda>"))) := fun b o e n => by
      rw [upd_ne (ne_of_none e nC), upd_ne (fun z => n ps (Option.some.inj (e.symm.trans (by rw [z]; exact hP))))]
      exact e
    have hE2 : ∀ b o, H b = some o → b ≠ P → (upd (upd H P (.tbl (ps ++ #[rawInt pos.line, rawInt pos.col, .ref c']))) c' (CodeO c' (X.env.qual ++ "<lambda>"))) b = some o := fun b o e n => by
      rw [upd_ne (ne_of_none e nC), upd_ne n]
      exact e
    have eL : (ps ++ #[rawInt pos.line, rawInt pos.col, .ref c']).toList = ps.toList ++ [rawInt pos.line, rawInt pos.col, .ref c'] := by simp
    have T1 : Tabs T (upd (upd H P (.tbl (ps ++ #[rawInt pos.line, rawInt pos.col, .ref c']))) c' (CodeO c' (X.env.qual ++ "<lambda>"))) := fun p hp => by
      by_cases hb : p.1 = P
      · rw [hu p hp hb, hb]
        refine ⟨_, by rw [upd_ne (ne_of_none hP nC), upd_same], by rw [eL]; exact PySem.TriplesOk_snoc _ _ _ _ ht, fun p' cv hcv => ?_⟩
        rw [eL] at hcv
        rcases among_app _ ht hcv with z | z
        · obtain ⟨c0, e1, e2⟩ := ha p' cv z
          exact ⟨c0, e1, hE _ _ e2 codeO_ne⟩
        · exact ⟨c', z, upd_same⟩
      · obtain ⟨ps', a1, a2, a3⟩ := hT p hp
        refine ⟨ps', by rw [upd_ne (ne_of_none a1 nC), upd_ne hb]; exact a1, a2, fun p' cv hcv => ?_⟩
        obtain ⟨c0, e1, e2⟩ := a3 p' cv hcv
        exact ⟨c0, e1, hE _ _ e2 codeO_ne⟩
    have nF := I1.hok.fresh (Nat.le_refl _)
    have I2 := inv_ln (F := ⟨"<lambda>", X.env.qual ++ "<lambda>", params, [], scope, cloFrom X.env.cells scope.names [], c'⟩) (b := body) (t' := tk) (pm := (X.mg "__name__").getD .none) (ctv := ctv) I1 rfl
    refine h h'.objs.size c' _ _ I2 (fun b o e n => ?_) (fun b e => upd_none (upd_none (upd_none e))) (T1.ext fun b o e => ?_) (I.hok.fresh (Nat.le_trans hge (Nat.le_of_lt hlt))) upd_same ?_
    · have e1 := hE2 b o e n
      exact (upd_ne (ne_of_none e1 nF)).trans e1
    · exact (upd_ne (ne_of_none e nF)).trans e
    · exact (upd_ne (Nat.ne_of_lt hlt)).trans upd_same
  | some cv =>
    obtain ⟨c', e, hco⟩ := ha pos cv hc
    subst e
    refine PySem.W.kla_makeFunctionHit (mg := X.mg) (c := c) (P := P) (ps := ps) (closure_ok hfree) I.ok.glob (I.mod.glob.keeps I.bk) hcode (TB.code.keeps I.bk) hP' ht hc bP fun ctv h' tk hx hsz => ?_
    have I1 : Inv X pins σ H { s with heap := h', toks := tk } := I.kept hx
    have nF : H h'.objs.size = none := I1.hok.fresh (Nat.le_refl _)
    have I2 := inv_ln (F := ⟨"<lambda>", X.env.qual ++ "<lambda>", params, [], scope, cloFrom X.env.cells scope.names [], c'⟩) (b := body) (t' := tk) (pm := (X.mg "__name__").getD .none) (ctv := ctv) I1 rfl
    refine h h'.objs.size c' _ _ I2 (fun b o e n => ?_) (fun b e => upd_none e) (hT.ext fun b o e => ?_) nF upd_same ?_
    · exact (upd_ne (ne_of_none e nF)).trans e
    · exact (upd_ne (ne_of_none e nF)).trans e
    · exact (upd_ne (ne_of_none hco nF)).trans hco
end
/-! ### its promise -/
structure LOk (P : Program) (w : World) (K : PySem.W.Frag) (mg : Str → Option Value) (base : Heap) (CX : CXT) (k : Nat) (f : Addr) (F : NF) (b : Expr) (ps fr : List Str) (sp : List (Option V) → Sp) : Prop where
  len : ∀ ws vs H Q E, sp ws vs H Q E → vs.length = ps.length
  run : ∀ (A : Around) (outer : List Env) (s : Shared) (H : Hp) (us : List Value) (vs : List V) (ws : List (Option V)) (Q : VK) (E : XK), Room k A → Env0 P w K mg base A outer s H → H f = some (LnO f F b) → H F.c = some (CodeO F.c F.qual) →
    CellsAt F.cl fr ws s.heap H → Vals vs us → sp ws vs H Q E → codeAny (model P w) A (.call (.ref f) ⟨us, []⟩) (CR CX outer P w H s Q E) s
section
variable {CX : CXT} {P : Program} {w : World} {K : PySem.W.Frag} {mg : Str → Option Value} {base : Heap} {N ps fr : List Str} {F : NF} {b : Expr} {f : Addr} {k j : Nat} {sp sp' : List (Option V) → Sp}
theorem LOk.mono (o : LOk P w K mg base CX j f F b ps fr sp) (h : j ≤ k) : LOk P w K mg base CX k f F b ps fr sp := ⟨o.len, fun A outer s H us vs ws Q E hr => o.run A outer s H us vs ws Q E (hr.mono h)⟩
theorem lok_of (S : NScope N ps fr F.scope) (hb : ∀ (pm cv ctv : Value) (us : List Value), us.length = ps.length → bindArgs (PySem.W.kla_fn F.name F.qual F.params b F.scope F.cl pm cv ctv) ⟨us, []⟩ = pure (ps.zip us)) (len : ∀ ws vs H Q E, sp ws vs H Q E → vs.length = ps.length)
    (hbody : ∀ (A : Around) (outer : List Env) (s : Shared) (H : Hp) (vs : List V) (ws : List (Option V)) (Q : VK) (E : XK), Room k (A.deeper (envF F f s.heap.objs.size)) → H f = some (LnO f F b) → H F.c = some (CodeO F.c F.qual) → ws.length = fr.length → sp ws vs H Q E →
      ∃ t, PE (ncx CX P w K mg base N F f A outer s H E) b t ∧ t (startF N vs ws) H Q) :
    LOk P w K mg base CX (k + 1) f F b ps fr sp := by
  refine ⟨len, fun A outer s H us vs ws Q E hr e0 hf hc C r hsp => ?_⟩
  have hl := len _ _ _ _ _ hsp
  have lim : s.heap.NoLimit := e0.mod.nolimit.keeps fun b o e => (e0.bs b o e).1
  obtain ⟨pm, ctv, ho⟩ := lnO_at e0.hok hf
  refine PySem.W.kla_callFunE hr.depth ho rfl S.co S.gen rfl (codeO_at e0.hok hc) ?_
  rw [hb pm (.ref F.c) ctv us (by rw [← r.length]; exact hl)]
  refine wpAny_pure (wpAny_newFunctionEnv S.nocell (fun ⟨n, _⟩ hy => S.par n (List.of_mem_zip hy).1) (fun h₁ hns hsb => ⟨lim.fresh _ hsb, ?_⟩) S.kind)
  show codeAny _ _ (.expr b (envF F f s.heap.objs.size)) _ _
  have kp : ∀ b o, s.heap.get? b = some o → h₁.get? b = some o := fun b o e => hsb.extBut b o (Nat.ne_of_lt (Heap.lt_size e)) (Heap.get?_push_of_some _ e)
  obtain ⟨t, ht, hq⟩ := hbody A outer s H vs ws Q E (hr.deeper _) hf hc C.len hsp
  have I : Inv (ncx CX P w K mg base N F f A outer s H E) [] (startF N vs ws) H { s with heap := h₁, toks := s.toks + (ps.zip us).length } := inv_startN S hr.hd e0 hl r C hns kp
  refine PySem.W.kla_codeExpr (wpAny_mono (ht.run [] _ (startF N vs ws) H Q I hq) (fun v s' hs => ?_) fun e s' hs => hs)
  obtain ⟨w', H', J, rv, q⟩ := hs
  exact ⟨w', H', J.os, J.bare, J.base, J.hok, rv, q⟩
end
section
variable {X : Cx} {CX : CXT} {F : NF} {b : Expr} {ps fr : List Str} {j k : Nat} {sp : List (Option V) → Sp} {E : XK}
theorem run_l {pins : List (Addr × Obj)} {σ : L2.St} {H : Hp} {s : Shared} {Q : VK} {f : Addr} {us : List Value} {vs : List V} {ws : List (Option V)} (Fn : LOk X.prog X.w X.K X.mg X.base CX k f F b ps fr sp) (hr : Room j X.A) (hk : k ≤ j) (hx : Passes CX X E) (I : Inv X pins σ H s)
    (hf : H f = some (LnO f F b)) (hc : H F.c = some (CodeO F.c F.qual)) (C : CellsAt F.cl fr ws s.heap H) (r : Vals vs us) (q : sp ws vs H Q E) :
    wpAny (model X.prog X.w) X.A (call (.ref f) us) (EP X pins σ Q) X.xe s := by
  refine wpAny_call (codeAny_mono (Fn.run X.A X.stack s H us vs _ Q E (hr.mono hk) I.env0 hf hc C r q) fun r s' hq => ?_)
  cases r with
  | error e => exact hx pins σ H s e s' I hq
  | ok fl =>
    cases fl with
    | ret u => exact I.after hq
    | next => exact False.elim hq
    | brk => exact False.elim hq
    | cont => exact False.elim hq
end
end MP

/-! MPYb: min(l, key=f) over a kept state. -/
namespace MP
open PySem PySem.Spec PyProof.Rows
section
variable {prog : Program} {w : World} {A : Around} {E : Value → Shared → Prop} {l q I S : Addr} {n : Nat} {P : Nat → Value → Prop} {R : Result → Shared → Prop} {Q : Value → Shared → Prop} {J : Shared → Prop}
def TurnJ (prog : Program) (w : World) (A : Around) (J : Shared → Prop) (q : Addr) (n : Nat) (P : Nat → Value → Prop) (kf : Nat → Int) (I S : Addr) : Prop :=
  ∀ (i : Nat) (v : Value), i < n ∧ P i v → ∀ (s : Shared) (oI oS : Obj), J s → s.heap.get? I = some oI → s.heap.get? S = some oS →
    wpAny (model prog w) A.in1 (call (.ref q) [v]) (fun x s' => (∃ t, x = .int (kf i) t) ∧ J s' ∧ s'.heap.get? I = some oI ∧ s'.heap.get? S = some oS) (fun _ _ => False) s
theorem minJ_loop (kf : Nat → Int) (hh : A.handled = none) (hl : ∀ s, J s → ∃ its : List Value, its.length = n ∧ (∀ i v, its[i]? = some v → P i v) ∧ s.heap.IsList l its.toArray) (hlI : l ≠ I) (hSI : S ≠ I)
    (hJ : ∀ (s : Shared) (b : Addr) (h' : Heap) (tk : Nat), b = I ∨ b = S → J s → (∀ c o, c ≠ b → s.heap.get? c = some o → h'.get? c = some o) → J { s with heap := h', toks := tk })
    (turn : TurnJ prog w A J q n P kf I S) (hR : ∀ i v s', i < n ∧ P i v → (∀ j, j < n → kf i ≤ kf j ∧ (j < i → kf i < kf j)) → J s' → R (.ok (.ret v)) s') :
    ∀ (r j i : Nat) (s : Shared) (vb : Value) (tb : Tok) (c : Nat), n - (j + 1) = r → j + 1 ≤ n → J s →
      s.heap.get? S = some (seqObj "list" #[vb, .int (kf i) tb] c) → s.heap.IsListIter I l (j + 1) → i < n ∧ P i vb → i ≤ j → (∀ j', j' ≤ j → kf i ≤ kf j' ∧ (j' < i → kf i < kf j')) →
      codeAny (model prog w) A (.builtin "min.loop" ⟨[.ref I, .ref q, .ref S], []⟩) R s := by
  have hname : (toString "min" ++ toString ".loop" : String) = "min.loop" := by decide
  intro r
  induction r with
  | zero =>
    intro j i s vb tb c hr hj F nS hit hvb hij hbest
    have hin : j + 1 = n := by omega
    obtain ⟨its, hits, hPi, hli⟩ := hl s F
    have W := Walks.list (prog := prog) (w := w) (A := A.in1) hh I l hlI its.toArray
    have hsz : its.toArray.size = n := hits ▸ List.size_toArray ..
    obtain ⟨oI0, hoI0, _⟩ := id hit
    refine codeAny_builtin PySem.F.entry_min_loop ?_
    rw [Around.under_plainId PySem.F.plain_min_loop _]
    show wpAny _ A.in1 (seqItems? (.ref S) >>= _) _ _ _
    refine wpAny_bind (wpAny_seqItems nS rfl ?_)
    show wpAny _ A.in1 (tryCatch (pyNext (.ref I)) _ >>= _) _ _ _
    refine wpAny_bind (wpAny_tryCatch (W.done _ _ _ ⟨by rw [hsz, ← hin]; exact hit, hli⟩ fun h' tk' hk' => ?_))
    have F1 := hJ s I h' tk' (.inl rfl) F fun c o hc => hk' c o (by simpa using hc)
    have hS' := hk' S _ (by simpa using hSI) nS
    have s1 := Heap.SameBut.update h' S (Obj.mapSeq fun _ => (#[] : Array Value))
    show wpAny _ A.in1 (updateSeq S (fun _ => #[]) >>= _) _ _ _
    refine wpAny_bind ?_
    refine wpAny_updateSeq hS' rfl (wpAny_bind (wpAny_letGo (wpAny_pure ?_)))
    exact hR i vb _ hvb (fun j' hj' => hbest j' (by omega)) (hJ _ S _ _ (.inr rfl) F1 fun c o hc e => s1.extBut c o hc e)
  | succ r ih =>
    intro j i s vb tb c hr hj F nS hit hvb hij hbest
    have hlt : j + 1 < n := by omega
    obtain ⟨its, hits, hPi, hli⟩ := hl s F
    have W := Walks.list (prog := prog) (w := w) (A := A.in1) hh I l hlI its.toArray
    have hsz : its.toArray.size = n := hits ▸ List.size_toArray ..
    refine codeAny_builtin PySem.F.entry_min_loop ?_
    rw [Around.under_plainId PySem.F.plain_min_loop _]
    show wpAny _ A.in1 (seqItems? (.ref S) >>= _) _ _ _
    refine wpAny_bind (wpAny_seqItems nS rfl ?_)
    show wpAny _ A.in1 (tryCatch (pyNext (.ref I)) _ >>= _) _ _ _
    refine wpAny_bind (wpAny_tryCatch (W.item (j + 1) _ _ _ (by rw [hsz]; exact hlt) ⟨hit, hli⟩ fun v h' tk' hP hst' hk' => ?_))
    have hv : j + 1 < n ∧ P (j + 1) v := ⟨hlt, hPi _ _ (by simpa using hP)⟩
    obtain ⟨oI', hoI', hoc, hod⟩ := id hst'.1
    have F1 := hJ s I h' tk' (.inl rfl) F fun c o hc => hk' c o (by simpa using hc)
    have hS' := hk' S _ (by simpa using hSI) nS
    show wpAny _ A.in1 (tryCatch (holding [v] (call (.ref q) [v])) _ >>= _) _ _ _
    refine wpAny_bind (wpAny_tryCatch (wpAny_holding (wpAny_mono (turn (j + 1) v hv _ _ _ F1 hoI' hS') (fun x s2 he => ?_) fun _ _ hF => hF.elim)))
    obtain ⟨⟨t2, rfl⟩, F2, nI2, nS2⟩ := he
    have hit2 : s2.heap.IsListIter I l (j + 1 + 1) := ⟨oI', nI2, hoc, hod⟩
    show wpAny _ A.in1 (tryCatch (holding [v, .int (kf (j + 1)) t2] (richCompare .Lt (.int (kf (j + 1)) t2) (.int (kf i) tb) >>= _)) _ >>= _) _ _ _
    refine wpAny_bind (wpAny_tryCatch (wpAny_holding (wpAny_bind (CmpOf.ints_lt (prog := prog) (w := w) (A := A.in1) (P := fun i v => ∃ t, v = .int (kf i) t) kf (fun i v h => h) (j + 1) i _ _ _ _ _ ⟨t2, rfl⟩ ⟨tb, rfl⟩ ?_))))
    refine wpAny_bind (wpAny_holding (wpAny_truthy_bool ?_))
    refine wpAny_bind (wpAny_letGo (wpAny_pure ?_))
    by_cases hb' : kf (j + 1) < kf i
    · have s1 := Heap.SameBut.update s2.heap S (Obj.mapSeq fun _ => #[v, .int (kf (j + 1)) t2])
      obtain ⟨c2, hc2⟩ : ∃ c2, (s2.heap.update S (Obj.mapSeq fun _ => #[v, .int (kf (j + 1)) t2])).get? S = some (seqObj "list" #[v, .int (kf (j + 1)) t2] c2) := ⟨_, get?_update_seq nS2 fun _ => #[v, .int (kf (j + 1)) t2]⟩
      simp only [hb', decide_true, if_true]
      refine wpAny_bind ?_
      refine wpAny_updateSeq nS2 rfl (wpAny_bind (wpAny_letGo ?_))
      rw [hname]
      refine wpAny_pure ⟨plainId_quiet PySem.F.plain_min_loop _, ih (j + 1) (j + 1) _ v t2 c2 (by omega) hlt (hJ _ S _ s2.toks (.inr rfl) F2 fun c o hc e => s1.extBut c o hc e) hc2 ⟨oI', (s1.2 I hSI.symm).trans nI2, hoc, hod⟩ hv (Nat.le_refl _) fun j' hj' => ?_⟩
      by_cases e : j' = j + 1
      · subst e
        exact ⟨by omega, fun _ => by omega⟩
      · have hb1 := hbest j' (by omega)
        have hb2 := hb1.1
        exact ⟨by omega, fun _ => by omega⟩
    · simp only [hb', decide_false, Bool.false_eq_true, if_false]
      refine wpAny_bind (wpAny_letGo ?_)
      rw [hname]
      refine wpAny_pure ⟨plainId_quiet PySem.F.plain_min_loop _, ih (j + 1) i _ vb tb c (by omega) hlt F2 nS2 hit2 hvb (by omega) fun j' hj' => ?_⟩
      by_cases e : j' = j + 1
      · subst e
        exact ⟨by omega, fun _ => by omega⟩
      · exact hbest j' (by omega)
/-- min(l, key=q): I and S are the next two free addresses -/
theorem minJ (kf : Nat → Int) (hh : A.handled = none) {s : Shared} {its0 : List Value} (hls : s.heap.IsList l its0.toArray) (hne : 0 < n) (hI : I = s.heap.objs.size) (hS0 : S = s.heap.objs.size + 1)
    (J0 : ∀ h', (∀ b o, s.heap.get? b = some o → h'.get? b = some o) → J { s with heap := h' })
    (hl : ∀ s, J s → ∃ its : List Value, its.length = n ∧ (∀ i v, its[i]? = some v → P i v) ∧ s.heap.IsList l its.toArray)
    (hJ : ∀ (s : Shared) (b : Addr) (h' : Heap) (tk : Nat), b = I ∨ b = S → J s → (∀ c o, c ≠ b → s.heap.get? c = some o → h'.get? c = some o) → J { s with heap := h', toks := tk })
    (turn : TurnJ prog w A J q n P kf I S) (hQ : ∀ i v s', i < n ∧ P i v → (∀ j, j < n → kf i ≤ kf j ∧ (j < i → kf i < kf j)) → J s' → Q v s') :
    wpAny (model prog w) A (call (.builtin "min") [.ref l] [(Str.ofString "key", .ref q)]) Q E s := by
  have hname : (toString "min" ++ toString ".loop" : String) = "min.loop" := by decide
  obtain ⟨ol, hol, _⟩ := id hls
  have hll : l < s.heap.objs.size := Heap.lt_size hol
  refine kmk_tree PySem.F.kind_min PySem.F.plain_min PySem.F.entry_min (kmk_min_key _ _) ?_
  show wpAny _ A.in1 (Builtin.Builtins.bindParams "min" ["key", "default"] 0 ⟨[], [(Str.ofString "key", .ref q)]⟩ >>= _) _ _ s
  refine wpAny_bind (wpAny_of_eq (show Builtin.Builtins.bindParams "min" ["key", "default"] 0 ⟨[], [(Str.ofString "key", .ref q)]⟩ = pure [some (.ref q), none] from rfl) ?_)
  refine wpAny_bind (wpAny_pure ?_)
  refine wpAny_bind (wpAny_pyIter_list hls ?_)
  refine wpAny_bind (wpAny_newList ?_ (Nat.zero_le _))
  rw [hname]
  have hS : (s.heap.push { cls := .type "list_iterator", data := .fields #[.ref l, .int 0 0] }).objs.size = s.heap.objs.size + 1 := size_push' ..
  rw [← hS] at hS0
  subst hI
  subst hS0
  have hlI : l ≠ s.heap.objs.size := Nat.ne_of_lt hll
  have hSI : (s.heap.push { cls := .type "list_iterator", data := .fields #[.ref l, .int 0 0] }).objs.size ≠ s.heap.objs.size := by rw [hS]; exact Nat.ne_of_gt (Nat.lt_succ_self _)
  refine wpAny_pure ⟨plainId_quiet PySem.F.plain_min_loop _, ?_⟩
  have FH := J0 ((s.heap.push { cls := .type "list_iterator", data := .fields #[.ref l, .int 0 0] }).push (seqObj "list" #[] 0)) fun b o e => Heap.get?_push_of_some _ (Heap.get?_push_of_some _ e)
  have gI : ((s.heap.push { cls := .type "list_iterator", data := .fields #[.ref l, .int 0 0] }).push (seqObj "list" #[] 0)).get? s.heap.objs.size = some { cls := .type "list_iterator", data := .fields #[.ref l, .int 0 0] } :=
    Heap.get?_push_of_some _ (Heap.get?_push_size _ rfl)
  have gS : ((s.heap.push { cls := .type "list_iterator", data := .fields #[.ref l, .int 0 0] }).push (seqObj "list" #[] 0)).get? (s.heap.push { cls := .type "list_iterator", data := .fields #[.ref l, .int 0 0] }).objs.size = some (seqObj "list" #[] 0) := Heap.get?_push_size _ rfl
  obtain ⟨its, hits, hPi, hli⟩ := hl _ FH
  have W := Walks.list (prog := prog) (w := w) (A := A.in1) hh s.heap.objs.size l hlI its.toArray
  have hsz : its.toArray.size = n := hits ▸ List.size_toArray ..
  refine codeAny_builtin PySem.F.entry_min_loop ?_
  rw [Around.under_plainId PySem.F.plain_min_loop _]
  show wpAny _ A.in1 (seqItems? (.ref _) >>= _) _ _ _
  refine wpAny_bind (wpAny_seqItems gS rfl ?_)
  show wpAny _ A.in1 (tryCatch (pyNext (.ref s.heap.objs.size)) _ >>= _) _ _ _
  refine wpAny_bind (wpAny_tryCatch (W.item 0 _ _ _ (by rw [hsz]; exact hne) ⟨⟨_, gI, rfl, rfl⟩, hli⟩ fun v h' tk' hP hst' hk' => ?_))
  have hv : 0 < n ∧ P 0 v := ⟨hne, hPi _ _ (by simpa using hP)⟩
  obtain ⟨oI', hoI', hoc, hod⟩ := id hst'.1
  have F1 := hJ _ _ h' tk' (.inl rfl) FH fun c o hc => hk' c o (by simpa using hc)
  have hS' := hk' _ _ (by simpa using hSI) gS
  show wpAny _ A.in1 (tryCatch (holding [v] (call (.ref q) [v])) _ >>= _) _ _ _
  refine wpAny_bind (wpAny_tryCatch (wpAny_holding (wpAny_mono (turn 0 v hv _ _ _ F1 hoI' hS') (fun x s2 he => ?_) fun _ _ hF => hF.elim)))
  obtain ⟨⟨t2, rfl⟩, F2, nI2, nS2⟩ := he
  have s1 := Heap.SameBut.update s2.heap (s.heap.push { cls := .type "list_iterator", data := .fields #[.ref l, .int 0 0] }).objs.size (Obj.mapSeq fun _ => #[v, .int (kf 0) t2])
  obtain ⟨c2, hc2⟩ : ∃ c2, (s2.heap.update (s.heap.push { cls := .type "list_iterator", data := .fields #[.ref l, .int 0 0] }).objs.size (Obj.mapSeq fun _ => #[v, .int (kf 0) t2])).get? (s.heap.push { cls := .type "list_iterator", data := .fields #[.ref l, .int 0 0] }).objs.size = some (seqObj "list" #[v, .int (kf 0) t2] c2) := ⟨_, get?_update_seq nS2 fun _ => #[v, .int (kf 0) t2]⟩
  show wpAny _ A.in1 (updateSeq (s.heap.push { cls := .type "list_iterator", data := .fields #[.ref l, .int 0 0] }).objs.size (fun _ => #[v, .int (kf 0) t2]) >>= _) _ _ _
  refine wpAny_bind ?_
  refine wpAny_updateSeq nS2 rfl ?_
  rw [hname]
  refine wpAny_pure ⟨plainId_quiet PySem.F.plain_min_loop _, minJ_loop kf hh hl hlI hSI hJ turn hQ _ 0 0 _ v t2 c2 rfl hne (hJ _ _ _ s2.toks (.inr rfl) F2 fun c o hc e => s1.extBut c o hc e) hc2 ⟨oI', (s1.2 _ hSI.symm).trans nI2, hoc, hod⟩ hv (Nat.le_refl _) fun j' hj' => ?_⟩
  have e : j' = 0 := by omega
  subst e
  exact ⟨by omega, fun h => absurd h (Nat.lt_irrefl _)⟩
end
end MP

/-! MPYc: min(l, key=the lambda), over a kept state of the tracked heap. -/
namespace MP
open PySem PySem.Spec PyProof.Rows L2 LamX NdefX
section
variable {X : Cx} {F : NF} {b : Expr} {fr : List Str} {a : Str} {js : List Nat} {k : Nat} {sp : List (Option V) → Sp}
theorem no_exc {outer : List Env} {P : Program} {w : World} {H : Hp} {s : Shared} {e : Value} {s' : Shared} (x : L2.CX P w outer H s (fun _ _ _ => False) e s') : False := by
  obtain ⟨_, _, _, _, _, _, _, _, _, _, _, _, _, _, _, _, z⟩ := x
theorem min_lam_run {pins : List (Addr × Obj)} {σ : L2.St} {H : Hp} {s : Shared} {Q : VK} {E : Value → Shared → Prop} {f l : Addr} {n : Nat} {vv : Nat → V} (KH : Hp → Prop) (I : Inv X pins σ H s) (hc : X.calm = true) (k0 : KH H) (hne : 0 < n)
    (hs : ∀ H', KH H' → ∃ xs, SqL X.K H' l xs ∧ xs.length = n ∧ ∀ (i : Nat) v, xs[i]? = some v → v = vv i)
    (Fn : LOk X.prog X.w X.K X.mg X.base (L2.CX X.prog X.w) k f F b [a] fr sp) (hr : Room (k + 1) X.A) (hf : ∀ H', KH H' → H' f = some (LnO f F b) ∧ H' F.c = some (CodeO F.c F.qual)) (cp : Caps X F.cl fr js) (kf : Nat → Int)
    (hk : ∀ H' i, KH H' → i < n → sp (js.map (slotAt σ)) [vv i] H' (fun r H'' => r = .int (kf i) ∧ KH H'') (fun _ _ _ => False))
    (hQ : ∀ H' i, KH H' → i < n → (∀ j, j < n → kf i ≤ kf j ∧ (j < i → kf i < kf j)) → Q (vv i) H') :
    wpAny (model X.prog X.w) X.A (call (.builtin "min") [.ref l] [(Str.ofString "key", .ref f)]) (EP X pins σ Q) E s := by
  obtain ⟨xs, hsq, hxl, hxv⟩ := hs H k0
  obtain ⟨its, hv, hp, _⟩ := I.list hsq
  have fI : FpOk X pins H s.heap.objs.size := I.fpOk (Nat.le_refl _) (I.hok.fresh (Nat.le_refl _))
  have fS : FpOk X pins H (s.heap.objs.size + 1) := I.fpOk (Nat.le_succ _) (I.hok.fresh (Nat.le_succ _))
  have nst : ∀ {c : Addr}, FpOk X pins H c → c ∉ frs X.stack := fun {c} h z => by
    rcases List.mem_cons.mp (I.stkSub c z) with e | e
    · exact h.2.1 e
    · exact h.2.2.1 e
  have isl : ∀ s', (∃ H', Inv X pins σ H' s' ∧ KH H' ∧ H' s.heap.objs.size = none ∧ H' (s.heap.objs.size + 1) = none) → ∃ its : List Value, its.length = n ∧ (∀ (i : Nat) u, its[i]? = some u → RelV (vv i) u) ∧ s'.heap.IsList l its.toArray := fun s' ⟨H', I', k', _, _⟩ => by
    obtain ⟨xs', hq', hl', hx'⟩ := hs H' k'
    obtain ⟨its', hv', hp', _⟩ := I'.list hq'
    refine ⟨its', hv'.length.symm.trans hl', fun i u hu => ?_, hp'.isList⟩
    have hi : i < xs'.length := by rw [hv'.length]; exact (List.getElem?_eq_some_iff.mp hu).1
    obtain ⟨u', hu', rv⟩ := hv'.get (List.getElem?_eq_getElem hi)
    rw [hu] at hu'
    cases hu'
    rw [← hx' i _ (List.getElem?_eq_getElem hi)]
    exact rv
  refine minJ (J := fun s' => ∃ H', Inv X pins σ H' s' ∧ KH H' ∧ H' s.heap.objs.size = none ∧ H' (s.heap.objs.size + 1) = none) (n := n) (P := fun i u => RelV (vv i) u) (its0 := its) (I := s.heap.objs.size) (S := s.heap.objs.size + 1) kf (I.ok.hd hc) hp.isList hne rfl rfl
    (fun h' kp => ⟨H, I.kept kp, k0, fI.1, fS.1⟩) isl (fun s' c h' tk hb ⟨H', I', k', n1, n2⟩ kp => ?_) (fun i u hu s' oI oS ⟨H', I', k', n1, n2⟩ gI gS => ?_) fun i u s' hu hbest ⟨H', I', k', n1, n2⟩ => ?_
  · have fc : FpOk X pins H c := by
      rcases hb with e | e
      · rw [e]; exact fI
      · rw [e]; exact fS
    have nc : H' c = none := by
      rcases hb with e | e
      · rw [e]; exact n1
      · rw [e]; exact n2
    exact ⟨H', I'.turned kp nc fc.2.1 fc.2.2.2.1 fc.2.2.2.2.1 fc.2.2.2.2.2, k', n1, n2⟩
  · have hlt : i < n := hu.1
    obtain ⟨l1, l2⟩ := hf H' k'
    refine wpAny_call (codeAny_mono (Fn.run X.A.in1 X.stack s' H' [u] [vv i] (js.map (slotAt σ)) _ _ hr.in1 I'.env0.in1 l1 l2 (cells_of I' cp) (.cons hu.2 .nil) (hk H' i k' hlt)) fun r s2 hq => ?_)
    cases r with
    | error e => exact (no_exc hq).elim
    | ok fl =>
      cases fl with
      | ret y =>
        obtain ⟨v, H2, os, bare, un, hok, r, q1, q2⟩ := hq
        subst q1
        refine ⟨r, ⟨H2, I'.call' os un hok bare (fun _ z => absurd z (by simp)), q2, un.free _ _ gI n1 (by simp), un.free _ _ gS n2 (by simp)⟩, un.keep _ _ gI n1 (nst fI) (by simp), un.keep _ _ gS n2 (nst fS) (by simp)⟩
      | next => exact False.elim hq
      | brk => exact False.elim hq
      | cont => exact False.elim hq
  · exact ⟨vv i, H', I', hu.2, hQ H' i k' hu.1 hbest⟩
end
end MP

/-! MPYd: the expressions lambda, min(e, key=lambda ..). -/
namespace MP
open PySem PySem.Spec PyProof.Rows L2 LamX NdefX
/-- what the making of a lambda gives -/
abbrev lamF (X : Cx) (params : Arguments) (scope : Scope) (c' : Addr) : NF := ⟨"<lambda>", X.env.qual ++ "<lambda>", params, [], scope, cloFrom X.env.cells scope.names [], c'⟩
def Made (X : Cx) (P : Addr) (T : List (Addr × Str)) (params : Arguments) (body : Expr) (scope : Scope) (H : Hp) (f c' : Addr) (H1 : Hp) : Prop :=
  (∀ b o, H b = some o → b ≠ P → H1 b = some o) ∧ (∀ b, H1 b = Option.none → H b = Option.none) ∧ Tabs T H1 ∧ H f = none ∧ H1 f = some (LnO f (lamF X params scope c') body) ∧ H1 c' = some (CodeO c' (X.env.qual ++ "<lambda>"))
def tLamL (X : Cx) (P : Addr) (T : List (Addr × Str)) (params : Arguments) (body : Expr) (scope : Scope) : TE := fun σ H Q => Tabs T H ∧ ∀ f c' H1, Made X P T params body scope H f c' H1 → Q (.ref f) H1
section
variable {X : Cx} {T : List (Addr × Str)} {c P : Addr} {params : Arguments} {body : Expr} {scope : Scope} {lpos p pos kpos : Pos} {e : Expr} {te : TE} {fr ps : List Str} {a : Str} {js : List Nat} {k : Nat}
theorem pe_lamL (TB : TabB X.base X.mg c P) (hcode : X.env.code = .ref c) (hm : (P, X.env.qual ++ "<lambda>") ∈ T) (hu : ∀ p ∈ T, p.1 = P → p.2 = X.env.qual ++ "<lambda>") (hdef : defaultsOf params X.env = ([], []))
    (hfree : X.Ok → ∀ y ∈ scope.names, y.2 = .free → ∃ c, X.env.cells.lookup y.1 = some c) : PE X (.Lambda params body scope lpos) (tLamL X P T params body scope) := by
  refine ⟨fun pins s σ H Q I h => ?_⟩
  exact lam_makeL I TB hcode hm hu h.1 hdef (hfree I.ok) fun f c' H1 s' I1 h1 h2 h3 h4 h5 h6 => ⟨.ref f, H1, I1, rfl, h.2 f c' H1 ⟨h1, h2, h3, h4, h5, h6⟩⟩
/-- what the call of min wants: a kept state KH of the heap, the values vv, their keys kf -/
def minW (X : Cx) (params : Arguments) (body : Expr) (scope : Scope) (js : List Nat) (sp : Addr → Addr → List (Option V) → Sp) (σ : L2.St) (Q : VK) (x : V) (H2 : Hp) (f c' : Addr) : Prop :=
  ∃ (KH : Hp → Prop) (l : Addr) (n : Nat) (vv : Nat → V) (kf : Nat → Int), x = .ref l ∧ KH H2 ∧ 0 < n ∧ (∀ H', KH H' → ∃ xs, SqL X.K H' l xs ∧ xs.length = n ∧ ∀ (i : Nat) v, xs[i]? = some v → v = vv i) ∧
    (∀ H', KH H' → H' f = some (LnO f (lamF X params scope c') body) ∧ H' c' = some (CodeO c' (X.env.qual ++ "<lambda>"))) ∧
    (∀ H' i, KH H' → i < n → sp f c' (js.map (slotAt σ)) [vv i] H' (fun r H'' => r = .int (kf i) ∧ KH H'') (fun _ _ _ => False)) ∧
    ∀ H' i, KH H' → i < n → (∀ j, j < n → kf i ≤ kf j ∧ (j < i → kf i < kf j)) → Q (vv i) H'
def minR (X : Cx) (P : Addr) (T : List (Addr × Str)) (params : Arguments) (body : Expr) (scope : Scope) (js : List Nat) (sp : Addr → Addr → List (Option V) → Sp) (σ : L2.St) (Q : VK) (x : V) (H1 : Hp) : Prop := Tabs T H1 ∧
  ∀ f c' H2, Made X P T params body scope H1 f c' H2 → minW X params body scope js sp σ Q x H2 f c'
def tMinL (X : Cx) (P : Addr) (T : List (Addr × Str)) (params : Arguments) (body : Expr) (scope : Scope) (js : List Nat) (sp : Addr → Addr → List (Option V) → Sp) (te : TE) : TE := fun σ H Q => te σ H (minR X P T params body scope js sp σ Q)
def one1 (R : V → Hp → Prop) (vs : List V) (H : Hp) : Prop := match vs with
  | [x] => R x H
  | _ => False
theorem pe_minL {sp : Addr → Addr → List (Option V) → Sp} (TB : TabB X.base X.mg c P) (hcode : X.env.code = .ref c) (hm : (P, X.env.qual ++ "<lambda>") ∈ T) (hu : ∀ p ∈ T, p.1 = P → p.2 = X.env.qual ++ "<lambda>") (hdef : defaultsOf params X.env = ([], []))
    (hfree : X.Ok → ∀ y ∈ scope.names, y.2 = .free → ∃ c, X.env.cells.lookup y.1 = some c) (hc : X.calm = true) (hr : Room (k + 1) X.A) (cp : X.Ok → Caps X (cloFrom X.env.cells scope.names []) fr js)
    (Fn : ∀ f c', LOk X.prog X.w X.K X.mg X.base (L2.CX X.prog X.w) k f (lamF X params scope c') body [a] fr (sp f c')) (hg : Gl X "min") (hmin : X.mg "min" = none) (he : PE X e te)
    (hs1 : starEach [e] X.env = (false, eval e X.env) :: starEach [] X.env := by rfl) (hs : backTo pos (starEach [e] X.env) = (false, eval e X.env) :: backTo pos (starEach [] X.env) := by rfl) (hpl : (backTo pos (starEach [e] X.env)).any (·.1) = false := by rfl) :
    PE X (.Call (.Name "min" p) [e] [⟨some "key", .Lambda params body scope lpos, kpos⟩] pos) (tMinL X P T params body scope js sp te) := by
  refine ⟨fun pins s σ H Q I h => ?_⟩
  have hv : bootBuiltins ("min" : Str) = some (.builtin "min") := by decide +kernel
  refine wpAny_Call_Name_kw (ld_blt I hg hmin hv ?_ (by decide) (by decide))
  refine PyProof.Rows.callWith_kw (thn ((pa_cons he pa_nil hs1).run pos pins s σ H (one1 (minR X P T params body scope js sp σ Q)) (I.tok _) h) fun us s1 ⟨vs, H1, I1, r1, q1⟩ => ?_) hs hpl (by rfl) (by rfl)
  cases r1 with
  | nil => exact q1.elim
  | cons rx rr =>
    cases rr with
    | cons _ _ => exact q1.elim
    | nil =>
      obtain ⟨tT, q1⟩ := q1
      refine thn ((pk_cons (nm := some "key") (kpos := kpos) (pe_lamL (lpos := lpos) (body := body) TB hcode hm hu hdef hfree) pk_nil).run pos pins s1 σ H1 (one1 fun z H2 => ∃ f c', z = .ref f ∧ Made X P T params body scope H1 f c' H2) I1 ⟨tT, fun f c' H2 m => ⟨f, c', rfl, m⟩⟩) fun ws s2 ⟨zs, H2, I2, r2, q2⟩ => ?_
      cases r2 with
      | nil => exact q2.elim
      | cons rz rr =>
        cases rr with
        | cons _ _ => exact q2.elim
        | nil =>
          obtain ⟨f, c', ez, m⟩ := q2
          subst ez
          obtain rfl := (show _ = Value.ref f from rz)
          obtain ⟨KH, l, n, vv, kf, ex, k0, hne, hs, hf, hk, hq⟩ := q1 f c' H2 m
          subst ex
          obtain rfl := (show _ = Value.ref l from rx)
          exact min_lam_run KH I2 hc k0 hne hs (Fn f c') hr hf (cp I2.ok) kf hk hq
end
end MP

/-! MPYe: the simulation where a lambda is made. -/
namespace MP
open PySem PySem.Spec PyProof.Rows L2 LamX NdefX
theorem Sim.made {X : Cx} {G : GW} {m : List Addr} {F H H1 : Hp} {S : Store} {P f c' : Addr} {params : Arguments} {body : Expr} {scope : Scope} {q : Str} (s : Sim G m F S H) (hm : (P, q) ∈ G.T) (mk : Made X P G.T params body scope H f c' H1) :
    Sim G m (upd F f (LnO f (lamF X params scope c') body)) S H1 ∧ Ext m F m (upd F f (LnO f (lamF X params scope c') body)) := by
  obtain ⟨h1, h2, h3, h4, h5, h6⟩ := mk
  have e : Ext m F m (upd F f (LnO f (lamF X params scope c') body)) := ⟨fun _ _ h => h, fun a u q => by rw [upd_ne (ne_of_none q (s.fnone h4))]; exact q⟩
  have fP := s.tab.2 _ hm
  refine ⟨⟨fun a u q => ?_, s.nod, s.len, fun a ha => ?_, fun i a c g1 g2 => ?_, h3, fun p hp => ⟨?_, (s.tab.2 p hp).2⟩⟩, e⟩
  · by_cases ha : a = f
    · subst ha; rw [upd_same] at q; rw [h5]; exact q
    · rw [upd_ne ha] at q
      exact h1 a u (s.sub a u q) (fun z => by rw [z, fP.1] at q; cases q)
  · rw [upd_ne (fun (z : a = f) => s.notin h4 (z ▸ ha))]; exact s.fre a ha
  · have hma : a ∈ m := List.mem_of_getElem? g1
    obtain ⟨o, ho⟩ := s.there hma
    have eH : H1 a = H a := by rw [ho]; exact h1 a o ho (fun z => fP.2 (z ▸ hma))
    rw [eH]
    exact (s.cel i a c g1 g2).mono e
  · rw [upd_ne (s.tab.ne h4 p hp)]; exact (s.tab.2 p hp).1
/-- .. and its code object is tracked as well -/
theorem Sim.made2 {X : Cx} {G : GW} {m : List Addr} {F H H1 : Hp} {S : Store} {P f c' : Addr} {params : Arguments} {body : Expr} {scope : Scope} {q : Str} (s : Sim G m F S H) (hm : (P, q) ∈ G.T) (mk : Made X P G.T params body scope H f c' H1) :
    ∃ F1, Sim G m F1 S H1 ∧ Ext m F m F1 ∧ F1 f = some (LnO f (lamF X params scope c') body) ∧ F1 c' = some (CodeO c' (X.env.qual ++ "<lambda>")) := by
  obtain ⟨s1, e1⟩ := s.made hm mk
  obtain ⟨h1, h2, h3, h4, h5, h6⟩ := mk
  have nm : c' ∉ m := fun z => by
    obtain ⟨i, hi, e⟩ := List.getElem_of_mem z
    obtain ⟨c, _, hc⟩ := s1.at (i := i) (a := c') (by rw [List.getElem?_eq_getElem hi, e])
    exact hc.noext _ h6
  have nP : ∀ p ∈ G.T, p.1 ≠ c' := fun p hp z => by
    obtain ⟨ps, h1, _⟩ := h3 p hp
    rw [z, h6] at h1; cases h1
  have hF : ∀ a o, (upd F f (LnO f (lamF X params scope c') body)) a = some o → a = c' → o = CodeO c' (X.env.qual ++ "<lambda>") := fun a o q z => by
    subst z
    have := s1.sub _ _ q
    rw [h6] at this
    exact (Option.some.inj this).symm
  have e2 : Ext m (upd F f (LnO f (lamF X params scope c') body)) m (upd (upd F f (LnO f (lamF X params scope c') body)) c' (CodeO c' (X.env.qual ++ "<lambda>"))) := ⟨fun _ _ h => h, fun a u q => by
    by_cases z : a = c'
    · rw [hF a u q z, z, upd_same]
    · rw [upd_ne z]; exact q⟩
  refine ⟨_, ⟨fun a u q => ?_, s1.nod, s1.len, fun a ha => ?_, fun i a c g1 g2 => (s1.cel i a c g1 g2).mono e2, h3, fun p hp => ⟨?_, (s1.tab.2 p hp).2⟩⟩, e1.trans e2, ?_, upd_same⟩
  · by_cases z : a = c'
    · subst z; rw [upd_same] at q; rw [h6]; exact q
    · rw [upd_ne z] at q; exact s1.sub a u q
  · rw [upd_ne (fun (z : a = c') => nm (z ▸ ha))]; exact s1.fre a ha
  · rw [upd_ne (nP p hp)]; exact (s1.tab.2 p hp).1
  · by_cases z : f = c'
    · subst z; rw [upd_same]; exact h6.symm.trans h5
    · rw [upd_ne z, upd_same]
end MP

/-! MPYf: a lambda's promise by its body's image. -/
namespace MP
open PySem PySem.Spec PyProof.Rows L2 LamX NdefX
/-- what a lambda with the image fb promises -/
def spL (G : GW) (N : List Str) (np : Nat) (fb : Ev) : List (Option V) → Sp := fun ws vs H Q _ => vs.length = np ∧ tE G W0 fb (startF N vs ws) H Q
theorem lok_img {CX : CXT} {P : Program} {w : World} {K : PySem.W.Frag} {mg : Str → Option Value} {base : Heap} {N ps fr : List Str} {F : NF} {b : Expr} {f : Addr} {k : Nat} {G : GW} {fb : Ev} (S : NScope N ps fr F.scope)
    (hb : ∀ (pm cv ctv : Value) (us : List Value), us.length = ps.length → bindArgs (PySem.W.kla_fn F.name F.qual F.params b F.scope F.cl pm cv ctv) ⟨us, []⟩ = pure (ps.zip us))
    (hE : ∀ (A : Around) (outer : List Env) (s : Shared) (H : Hp) (E : XK), Room k (A.deeper (envF F f s.heap.objs.size)) → SE (ncx CX P w K mg base N F f A outer s H E) G W0 b fb) :
    LOk P w K mg base CX (k + 1) f F b ps fr (spL G N ps.length fb) :=
  lok_of (N := N) S hb (fun _ _ _ _ _ h => h.1) fun A outer s H vs ws Q E hr _ _ _ hsp => ⟨_, hE A outer s H E hr, hsp.2⟩
end MP

/-! MPYg: the lambda's context; it makes no own call. -/
namespace MP
open PySem PySem.Spec PyProof.Rows L2 LamX NdefX
/-- no own calls -/
def calls0 : Calls := ⟨fun _ _ => .stuck, fun _ _ => .stuck⟩
theorem calls0_ok {Γ : Pg} {G : GW} {P : Program} {w : World} {mg : Str → Option Value} {base : Heap} {C : Calls} {k : Nat} (c : CallsOk Γ G P w mg base C k) (j : Nat) : CallsOk Γ G P w mg base calls0 j := by
  refine ⟨fun i f hf => ?_, .inl fun _ _ _ => rfl⟩
  obtain ⟨fd, _, hb⟩ := c.fn i f hf
  refine ⟨fd, ⟨fun vs H Q E hsp => hsp.1, fun A outer s H args us vs Q E hr e0 hb r hsp => ?_⟩, hb⟩
  obtain ⟨_, m, F, S, ds, s1, h1, hrun⟩ := hsp
  exact hrun.stuck.elim
theorem gy_ncx {Γ : Pg} {X : Cx} {G : GW} {W : WX} {C : Calls} {k : Nat} (g : GY Γ X G W C k) {N : List Str} {F : NF} {f : Addr} {A : Around} {outer : List Env} {s : Shared} {H : Hp} {E : XK} (nd : N.Nodup) (hr : Room 3 (A.deeper (envF F f s.heap.objs.size))) :
    GY Γ (ncx (L2.CX X.prog X.w) X.prog X.w X.K X.mg X.base N F f A outer s H E) G W0 calls0 0 :=
  ⟨⟨g.hK, rfl, nd, hr, LamX.takes0⟩, g.wf, calls0_ok g.calls 0⟩
end MP

/-! MPYh: min(e, key=lambda a: ..) as the interpreter has it: a list of integers, the first least key. -/
namespace MP
open PySem PySem.Spec PyProof.Rows L2 LamX NdefX
/-- what the making of lambdas asks of the running def -/
structure LamOk (G : GW) (X : Cx) : Prop where
  tab : ∃ c P, TabB X.base X.mg c P ∧ X.env.code = .ref c ∧ (P, X.env.qual ++ "<lambda>") ∈ G.T ∧ ∀ p ∈ G.T, p.1 = P → p.2 = X.env.qual ++ "<lambda>"
  room : Room 5 X.A
def slotE (ρ : En) (j : Nat) : Option D := match ρ[j]? with
  | some o => o
  | none => none
def startE (n : Nat) (ds : List D) (ws : List (Option D)) : En := ds.map some ++ (ws ++ List.replicate (n - ds.length - ws.length) none)
def keyOk (g : D → M D) (S : Store) (d : D) : Prop := ∃ z k, d = .int z ∧ g d S = some (.ok (.int k) S)
def keyZ (g : D → M D) (S : Store) (d : D) : Int := match g d S with
  | some (.ok (.int k) _) => k
  | _ => 0
def minFind (kf : D → Int) (ds : List D) : Option D := ds.find? fun d => ds.all fun d' => decide (kf d ≤ kf d')
open Classical in
noncomputable def mMin (g : D → M D) (d : D) : M D := fun S => match d with
  | .ref i => (match S[i]? with
    | some (.lst ds) => if ∀ d ∈ ds, keyOk g S d then (match minFind (keyZ g S) ds with
        | some d => some (.ok d S)
        | none => none) else none
    | _ => none)
  | _ => none
noncomputable def eMin (js : List Nat) (n : Nat) (fb fe : Ev) : Ev := fun ρ => .bind (fe ρ) fun d => mMin (fun d' => fb (startE n [d'] (js.map (slotE ρ)))) d
def vvOf (o : Option D) : V := match o with
  | some (.int z) => .int z
  | _ => .non
def kfOf (f : D → Int) (o : Option D) : Int := match o with
  | some d => f d
  | none => 0
theorem mMin_run {g : D → M D} {d : D} {S : Store} {r : R D} (h : mMin g d S = some r) : ∃ i ds v, d = .ref i ∧ S[i]? = some (.lst ds) ∧ (∀ d ∈ ds, keyOk g S d) ∧ minFind (keyZ g S) ds = some v ∧ r = .ok v S := by
  unfold mMin at h
  cases d with
  | ref i =>
    simp only at h
    cases e : S[i]? with
    | none => rw [e] at h; cases h
    | some c =>
      rw [e] at h
      cases c with
      | lst ds =>
        simp only at h
        split at h
        · rename_i hk
          cases em : minFind (keyZ g S) ds with
          | none => rw [em] at h; cases h
          | some v =>
            rw [em] at h
            cases h
            exact ⟨i, ds, v, rfl, e, hk, em, rfl⟩
        · cases h
      | _ => cases h
  | _ => cases h
theorem relE.slot {G : GW} {m : List Addr} {F : Hp} {ρ : En} {σ : L2.St} (r : relE G m F ρ σ) (j : Nat) {d : D} (h : slotE ρ j = some d) : ∃ v, NdefX.slotAt σ j = some v ∧ relD G m F d v := by
  unfold slotE at h
  cases e : ρ[j]? with
  | none => rw [e] at h; cases h
  | some o =>
    rw [e] at h
    have h : o = some d := h
    subst h
    obtain ⟨v, h1, h2⟩ := r.get j d e
    exact ⟨v, by unfold NdefX.slotAt; rw [h1], h2⟩
theorem startE_rel {G : GW} {m : List Addr} {F : Hp} {ρ : En} {σ : L2.St} (r : relE G m F ρ σ) (N : List Str) (js : List Nat) {d : D} {v : V} (hd : relD G m F d v) :
    relE G m F (startE N.length [d] (js.map (slotE ρ))) (startF N [v] (js.map (NdefX.slotAt σ))) := by
  refine ⟨by unfold startE startF; simp, fun i d' e => ?_⟩
  unfold startE at e
  unfold startF
  cases i with
  | zero =>
    simp at e
    subst e
    exact ⟨v, by simp, hd⟩
  | succ i =>
    simp only [List.map_cons, List.map_nil, List.cons_append, List.nil_append, List.getElem?_cons_succ] at e ⊢
    by_cases hi : i < js.length
    · rw [List.getElem?_append_left (by simpa using hi), List.getElem?_map, List.getElem?_eq_getElem hi] at e
      obtain ⟨w, h1, h2⟩ := r.slot (js[i]) (by simpa using e)
      exact ⟨w, by rw [List.getElem?_append_left (by simpa using hi), List.getElem?_map, List.getElem?_eq_getElem hi]; exact congrArg some h1, h2⟩
    · rw [List.getElem?_append_right (by simpa using Nat.le_of_not_lt hi), List.getElem?_replicate] at e
      split at e <;> cases e
/-- the names of a lambda's parameter that are served -/
def lamA (a : Str) : Bool := a == ("at" : Str) || a == ("row" : Str) || a == ("word" : Str) || a == ("numbers" : Str)
theorem bind_lam {a : Str} (ha : lamA a = true) {name qual : Str} {an : Option Expr} {ap : Pos} {body : Expr} {scope : Scope} {cl : List (Str × Addr)} {pm cv ctv : Value} {us : List Value} (hl : us.length = 1) :
    bindArgs (PySem.W.kla_fn name qual ⟨[], [⟨a, an, ap⟩], none, [], [], none, []⟩ body scope cl pm cv ctv) ⟨us, []⟩ = pure ([a].zip us) := by
  match us, hl with
  | [u], _ =>
    unfold lamA at ha
    simp only [Bool.or_eq_true, beq_iff_eq] at ha
    rcases ha with ((rfl | rfl) | rfl) | rfl <;> rfl
section
variable {Γ : Pg} {X : Cx} {G : GW} {W : WX} {C : Calls} {k : Nat} {e body : Expr} {fe fb : Ev} {a : Str} {ap p lpos kpos pos : Pos} {an : Option Expr} {scope : Scope} {fr : List Str} {js : List Nat}
theorem se_min (g : GY Γ X G W C k) (ha : lamA a = true) (L : LamOk G X) (hgl : Γ.gl.lookup ("min" : Str) = some .free) (hg : Gl X "min") (he : SE X G W e fe) (hs : noStar e = true) (S : NScope (a :: fr) [a] fr scope)
    (hfree : ∀ y ∈ scope.names, y.2 = .free → X.env.scope.names.lookup y.1 = some .cell ∨ X.env.scope.names.lookup y.1 = some .free) (hfr : ∀ y ∈ fr, (y, NameKind.free) ∈ scope.names) (hjs : js.map (fun j => X.N[j]?) = fr.map some)
    (hb : ∀ (F : NF) (f : Addr) (A : Around) (outer : List Env) (s : Shared) (H : Hp) (E : XK), F.scope = scope → Room 3 (A.deeper (envF F f s.heap.objs.size)) → SE (ncx (L2.CX X.prog X.w) X.prog X.w X.K X.mg X.base (a :: fr) F f A outer s H E) G W0 body fb) :
    SE X G W (.Call (.Name "min" p) [e] [⟨some "key", .Lambda ⟨[], [⟨a, an, ap⟩], none, [], [], none, []⟩ body scope lpos, kpos⟩] pos) (eMin js (a :: fr).length fb fe) := by
  obtain ⟨c, P, TB, hcode, hm, hu⟩ := L.tab
  refine PEimp (pe_minL (lpos := lpos) (kpos := kpos) (sp := fun _ _ => spL G (a :: fr) 1 fb) TB hcode hm hu rfl (fun ok y hy e => ?_) g.calm L.room (fun ok => Caps.made ok hfree hfr hjs)
    (fun f c' => lok_img (k := 3) (ps := [a]) S (fun pm cv ctv us hl => ?_) fun A outer s H E hr => hb _ f A outer s H E rfl hr) hg (g.wf.free _ hgl) he (starEach_one hs) ?_ (noStar_any (by simpa using hs))) ?_
  · exact (hfree y hy e).elim (fun z => ok.has _ (.inl z)) fun z => ok.has _ (.inr z)
  · exact bind_lam ha hl
  · rw [starEach_one hs]; rfl
  intro σ H Q h
  have h' := tM.bind (rel := relD G) h
  refine tM.imp h' fun x H1 hx => ?_
  obtain ⟨m, F, ρ, S, d, s1, re, rd, hrun⟩ := hx
  refine ⟨s1.tab.1, fun f c' H2 mk => ?_⟩
  obtain ⟨r, hr, hpost⟩ := hrun
  obtain ⟨i, ds, v, rfl, hS, hk, hmf, rfl⟩ := mMin_run hr
  obtain ⟨F1, s2, e2, l1, l2⟩ := s1.made2 hm mk
  obtain ⟨ad, rfl, hma⟩ := rd
  have hat : ∀ j, j < ds.length → ∃ d z kk, ds[j]? = some d ∧ d = .int z ∧ fb (startE (a :: fr).length [d] (js.map (slotE ρ))) S = some (.ok (.int kk) S) := fun j hj => by
    obtain ⟨z, kk, hz, hgk⟩ := hk _ (List.getElem_mem hj)
    exact ⟨_, z, kk, List.getElem?_eq_getElem hj, hz, hgk⟩
  have hne : 0 < ds.length := by
    cases ds with
    | nil => cases hmf
    | cons _ _ => exact Nat.succ_pos _
  refine ⟨fun H' => ∃ m' F', Ext m F1 m' F' ∧ Sim G m' F' S H', ad, ds.length, fun j => vvOf ds[j]?, fun j => kfOf (keyZ (fun d' => fb (startE (a :: fr).length [d'] (js.map (slotE ρ)))) S) ds[j]?, rfl, ⟨m, F1, .refl, s2⟩, hne, ?_, ?_, ?_, ?_⟩
  · rintro H' ⟨m', F', e', s'⟩
    obtain ⟨vs, hH, rds⟩ := s'.cel i ad _ (e'.pre _ _ (e2.pre _ _ hma)) hS
    refine ⟨vs, .inl (.inl hH), rds.length.symm, fun j v hv => ?_⟩
    obtain ⟨d, hd, rdv⟩ := rds.get' hv
    obtain ⟨z, kk, hz, _⟩ := hk d (List.mem_of_getElem? hd)
    subst hz
    show v = vvOf ds[j]?
    rw [hd]
    exact rdv
  · rintro H' ⟨m', F', e', s'⟩
    exact ⟨s'.sub _ _ (e'.sub _ _ l1), s'.sub _ _ (e'.sub _ _ l2)⟩
  · rintro H' j ⟨m', F', e', s'⟩ hj
    obtain ⟨d, z, kk, hd, hz, hgk⟩ := hat j hj
    have hvv : relD G m' F' d (vvOf ds[j]?) := by rw [hd, hz]; rfl
    refine ⟨rfl, m', F', _, S, s', startE_rel (re.mono (e2.trans e')) (a :: fr) js hvv, _, hgk, fun m2 F2 H2 b x2 s3 rb => ⟨?_, m2, F2, e'.trans x2, s3⟩⟩
    have q : kfOf (keyZ (fun d' => fb (startE (a :: fr).length [d'] (js.map (slotE ρ)))) S) ds[j]? = kk := by
      rw [hd]
      show (match fb (startE (a :: fr).length [d] (js.map (slotE ρ))) S with
        | some (.ok (.int k) _) => k
        | _ => (0 : Int)) = kk
      rw [hgk]
    exact (show b = V.int kk from rb).trans (congrArg V.int q.symm)
  · rintro H' j ⟨m', F', e', s'⟩ hj best
    obtain ⟨d, z, kk, hd, hz, hgk⟩ := hat j hj
    have hvv : relD G m' F' d (vvOf ds[j]?) := by rw [hd, hz]; rfl
    have hf : minFind (keyZ (fun d' => fb (startE (a :: fr).length [d'] (js.map (slotE ρ)))) S) ds = some d := by
      unfold minFind
      obtain ⟨hl, hdj⟩ := List.getElem?_eq_some_iff.mp hd
      rw [List.find?_eq_some_iff_getElem]
      refine ⟨?_, j, hl, hdj, fun j' hj' => ?_⟩
      · rw [List.all_eq_true]
        intro d' hd'
        obtain ⟨j2, hj2, e2⟩ := List.getElem_of_mem hd'
        have := (best j2 hj2).1
        have this : kfOf _ ds[j]? ≤ kfOf _ ds[j2]? := this
        rw [hd, List.getElem?_eq_getElem hj2, e2] at this
        exact decide_eq_true this
      · have h1 := (best j' (Nat.lt_trans hj' hl)).2 hj'
        have h1 : kfOf _ ds[j]? < kfOf _ ds[j']? := h1
        rw [hd, List.getElem?_eq_getElem (Nat.lt_trans hj' hl)] at h1
        rw [Bool.not_eq_true']
        refine Bool.eq_false_iff.mpr fun z => ?_
        have z2 := of_decide_eq_true (List.all_eq_true.mp z d (List.mem_of_getElem? hd))
        exact absurd (Int.lt_of_lt_of_le h1 z2) (Int.lt_irrefl _)
    rw [hmf] at hf
    cases hf
    exact hpost m' F' H' _ (e2.trans e') s' hvv
end
end MP

/-! MPQ: from the text's expressions to the interpreter. -/
namespace MP
open PySem PySem.Spec PyProof.Rows L2
open NdefX (NScope nscB nscope_by ncx NF envF)

/-- a def's or a block's names -/
structure Ct where
  N : List Str
  sc : Scope
  fn : Str → Bool
  lam : Bool
/-- a def's own cells: all -/
def fnT : Str → Bool := fun _ => true
structure CtOk (G : GW) (X : Cx) (c : Ct) : Prop where
  hN : X.N = c.N
  hs : X.env.scope = c.sc
  hf : ∀ x, c.fn x = true → X.fn x = true
  hl : c.lam = true → LamOk G X
def eStuck : Ev := fun _ => .stuck
def tStuck : Tv := fun _ => .stuck
def iStuck : Iv := fun _ => .stuck
def Ct.slot (c : Ct) (x : Str) : Option Nat := c.N.findIdx? (· == x)
def isVis (c : Ct) (x : Str) : Bool := match c.sc.names.lookup x with
  | some .local => true
  | some .cell => true
  | some .free => true
  | _ => false
def isGl (c : Ct) (x : Str) : Bool := match c.sc.names.lookup x with
  | some .globalImplicit => true
  | _ => false
def isFree (Γ : Pg) (x : Str) : Bool := match Γ.gl.lookup x with
  | some .free => true
  | _ => false
def badName (x : Str) : Bool := x == ("__debug__" : Str) || x == ("__classdict__" : Str) || x == ("__name__" : Str)
def bTy (x : Str) : Option String :=
  if x = "int" then some "int" else if x = "bool" then some "bool" else if x = "str" then some "str" else if x = "list" then some "list" else if x = "tuple" then some "tuple" else if x = "dict" then some "dict" else none
def cName (Γ : Pg) (c : Ct) (x : Str) : Ev :=
  if badName x then eStuck else
  if isVis c x then (match c.slot x with
    | some i => eSlot i
    | none => eStuck) else
  if isGl c x then (match Γ.gl.lookup x with
    | some (.fn i) => eC (.fn i)
    | some (.cls i) => eC (.cls i)
    | some (.int i) => eC (.int i)
    | some .free => (match bTy x with
      | some n => eC (.ty n)
      | none => eStuck)
    | none => eStuck) else eStuck
def opO : Operator → Option (D → D → M D)
  | .Add => some oAdd
  | .Sub => some oSub
  | .Mult => some oMul
  | .FloorDiv => some oFdiv
  | .Mod => some oMod
  | .Pow => some oPow
  | _ => none
def cNotIn (x c : D) : M Bool := .bind (cIn x c) fun b => .ret (!b)
def cmpO (Γ : Pg) (C : Calls) : CmpOp → D → D → M Bool
  | .Eq => cOwn Γ C "__eq__" cEq
  | .NotEq => cOwn Γ C "__ne__" cNe
  | .Lt => cLt
  | .LtE => cLe
  | .Gt => cGt
  | .GtE => cGe
  | .Is => cIs
  | .IsNot => cIsNot
  | .In => cIn
  | .NotIn => cNotIn
def andE : List Ev → Ev
  | [] => eStuck
  | [a] => a
  | a :: b :: r => eAnd a (andE (b :: r))
def orE : List Ev → Ev
  | [] => eStuck
  | [a] => a
  | a :: b :: r => eOr a (orE (b :: r))
def andT : List Tv → Tv
  | [] => tStuck
  | [a] => a
  | a :: b :: r => tAnd a (andT (b :: r))
def orT : List Tv → Tv
  | [] => tStuck
  | [a] => a
  | a :: b :: r => tOr a (orT (b :: r))
def aOf : List Ev → Av
  | [] => aNil
  | a :: r => aCons a (aOf r)
def chnOf (Γ : Pg) (C : Calls) : List CmpOp → List Ev → Option Chn
  | [op], [f] => some (.last (cmpO Γ C op) f)
  | op :: ops, f :: fs => (match chnOf Γ C ops fs with
    | some r => some (.more (cmpO Γ C op) f r)
    | none => none)
  | _, _ => none
def cmpsE (Γ : Pg) (C : Calls) (E : Expr → Ev) (a : Expr) (ops : List CmpOp) (bs : List Expr) : Tv := match ops, bs with
  | [op], [b] => if behindInMarks op b then tStuck else tCmp (cmpO Γ C op) (E a) (E b)
  | ops, bs => if lastMarks ops bs then tStuck else match chnOf Γ C ops (bs.map E) with
    | some r => tChn (E a) r
    | none => tStuck
def isLC : Expr → Bool
  | .ListComp _ _ _ _ => true
  | _ => false
noncomputable def dropIf (a : Expr) (f : Ev) : Ev := if isLC a then eDrop f else f
def bi1 (x : Str) : Option (D → M D) :=
  if x = "len" then some fLen else if x = "int" then some fInt else if x = "abs" then some fAbs else if x = "tuple" then some fTup else if x = "list" then some fLst else if x = "all" then some fAll else if x = "any" then some fAny else if x = "sum" then some fSum else none
/-- list(range(r)) -/
def rngArg (Γ : Pg) (c : Ct) (x : Str) (a : Expr) : Option Expr := match a with
  | .Call (.Name y _) [r] [] _ => if x = "list" ∧ y = "range" ∧ isGl c y = true ∧ isFree Γ y = true ∧ noStar r = true then some r else none
  | _ => none
noncomputable def cCall (Γ : Pg) (C : Calls) (c : Ct) (E : Expr → Ev) (x : Str) (args : List Expr) : Ev :=
  if badName x || !isGl c x || !args.all noStar then eStuck else match Γ.gl.lookup x with
  | some (.fn i) => (match Γ.fns[i]? with
    | some f => eCall C i f.ps.length (aOf (args.map E))
    | none => eStuck)
  | some (.cls cl) => (match Γ.cls[cl]? with
    | some cd => (match cd.init with
      | some i => (match Γ.fns[i]? with
        | some f => if 1 ≤ f.ps.length then eNew C cl (f.ps.length - 1) (aOf (args.map E)) else eStuck
        | none => eStuck)
      | none => eStuck)
    | none => eStuck)
  | some .free => (match args with
    | [a] => (match rngArg Γ c x a with
      | some r => eLstRg (E r)
      | none => (match bi1 x with
        | some f => dropIf a (eUn f (E a))
        | none => eStuck))
    | [a, b] => if x = "isinstance" then eOp (fIsi Γ) (E a) (E b) else eStuck
    | _ => eStuck)
  | _ => eStuck
def bm (m : Str) (n : Nat) : Option (String × (D → List D → M D)) :=
  if m = "append" ∧ n = 1 then some ("list", mAppend) else if m = "pop" ∧ n = 0 then some ("list", mPop) else if m = "pop" ∧ n = 1 then some ("list", mPopAt) else if m = "extend" ∧ n = 1 then some ("list", mExtend) else none
def cMeth (Γ : Pg) (C : Calls) (E : Expr → Ev) (o : Expr) (m : Str) (apos pos : Pos) (args : List Expr) : Ev :=
  if !plainBase o || !args.all noStar || !(apos.endLine == pos.line) || !decide (args.length < 30) then eStuck else
  if Γ.cls.any (fun cd => (cd.meths.lookup m).isSome) then eMeth Γ C m (E o) (aOf (args.map E)) else
  match bm m args.length with
  | some p => eM p.1 p.2 (E o) (aOf (args.map E))
  | none => eStuck
/-- a plain subscript -/
def plainIx : Expr → Bool
  | .Slice _ _ _ _ => false
  | _ => true
def plainT : Expr → Bool
  | .Name _ _ => true
  | .Call _ _ _ _ => true
  | .Attribute _ _ _ => true
  | .Subscript _ _ _ => true
  | .BinOp _ _ _ _ => true
  | .Constant _ _ _ => true
  | .ListComp _ _ _ _ => true
  | _ => false
def isTupE : Expr → Bool
  | .Tuple _ _ _ => true
  | _ => false
def isSetE : Expr → Bool
  | .Set _ _ _ => true
  | _ => false
def rngName (Γ : Pg) (c : Ct) (x y : Str) : Bool := decide (x = y) && isGl c x && isFree Γ x
def cIter (Γ : Pg) (c : Ct) (E : Expr → Ev) (tg : Expr) (it : Expr) : Iv := match it with
  | .Call (.Name x _) [a] [] _ => if rngName Γ c x "range" && noStar a then iRng1 (E a) else if rngName Γ c x "enumerate" && noStar a && isTupE tg then iEnum' (E a) else iSeq (E it)
  | .Call (.Name x _) [a, b] [] _ => if rngName Γ c x "range" && noStar a && noStar b then iRng2 (E a) (E b) else if rngName Γ c x "zip" && noStar a && noStar b && isTupE tg then iZip (E a) (E b) else iSeq (E it)
  | e => if isSetE e then iStuck else iSeq (E e)
def tgName (c : Ct) (x : Str) : Option Nat := match c.sc.names.lookup x with
  | some .local => c.slot x
  | some .cell => if c.fn x then c.slot x else none
  | _ => none
def tgNames (c : Ct) : List Expr → Option (List Nat)
  | [] => some []
  | .Name x _ :: r => (match tgName c x, tgNames c r with
    | some i, some is => some (i :: is)
    | _, _ => none)
  | _ => none
def cTg (c : Ct) : Expr → Option Tg
  | .Name x _ => (tgName c x).map .one
  | .Tuple es _ _ => (tgNames c es).map .many
  | _ => none
def ownOf (N : List Str) (scope : Scope) : List (Str × Nat) := scope.names.filterMap fun y => if y.2 == .local || y.2 == .cell then (N.findIdx? (· == y.1)).map fun i => (y.1, i) else none
def cIfs (T : Expr → Tv) : List Expr → Option Tv
  | [] => some tTrue
  | [a] => some (T a)
  | _ => none
noncomputable def cComp (Γ : Pg) (c : Ct) (E : Ct → Expr → Ev) (T : Ct → Expr → Tv) (elt tg it : Expr) (ifs : List Expr) (scope : Scope) : Ev :=
  let c' : Ct := ⟨c.N, relS scope c.sc, fun x => scope.names.lookup x == some .cell, false⟩
  if blkC c.N c.sc scope (ownOf c.N scope) && !isSetE it then (match cTg c' tg, cIfs (T c') ifs with
    | some t, some fc => if t.slots.all (fun i => ((ownOf c.N scope).map (·.2)).contains i) then eComp ((ownOf c.N scope).map (·.2)) (cIter Γ c (E c) tg it) t fc (E c' elt) else eStuck
    | _, _ => eStuck) else eStuck
noncomputable def cLC (Γ : Pg) (c : Ct) (E : Ct → Expr → Ev) (T : Ct → Expr → Tv) (elt : Expr) (gs : List Comprehension) (scope : Scope) : Ev := match gs with
  | [g] => if g.is_async = 0 then cComp Γ c E T elt g.target g.iter g.ifs scope else eStuck
  | _ => eStuck
def optO (E : Expr → Ev) : Option Expr → Ov
  | none => pNone
  | some e => pSome (E e)
def cPairs (E : Expr → Ev) : List (Option Expr) → List Expr → Option (List (Ev × Ev))
  | [], [] => some []
  | some k :: ks, v :: vs => (cPairs E ks vs).map fun r => (E k, E v) :: r
  | _, _ => none
def slots (c : Ct) : List Str → Option (List Nat)
  | [] => some []
  | x :: xs => (match c.slot x, slots c xs with
    | some i, some is => some (i :: is)
    | _, _ => none)
def freeOf (scope : Scope) : List Str := scope.names.filterMap fun y => if y.2 == .free then some y.1 else none
def isCF (c : Ct) (x : Str) : Bool := match c.sc.names.lookup x with
  | some .cell => true
  | some .free => true
  | _ => false
/-- min(e, key=lambda a: body) -/
noncomputable def cMin (Γ : Pg) (c : Ct) (E : Expr → Ev) (EL : Ct → Expr → Ev) (x kw a : Str) (e body : Expr) (scope : Scope) : Ev :=
  if x = "min" ∧ kw = "key" ∧ c.lam = true ∧ lamA a = true ∧ noStar e = true ∧ isGl c x = true ∧ isFree Γ x = true ∧ nscB (a :: freeOf scope) [a] (freeOf scope) scope = true ∧ (scope.names.all fun y => !(y.2 == .free) || isCF c y.1) = true then
    match slots c (freeOf scope) with
    | some js => eMin js (a :: freeOf scope).length (EL ⟨a :: freeOf scope, scope, fun _ => false, false⟩ body) (E e)
    | none => eStuck
  else eStuck
noncomputable def cE (Γ : Pg) (C : Calls) (E : Ct → Expr → Ev) (T : Ct → Expr → Tv) (EL : Ct → Expr → Ev) (c : Ct) (e : Expr) : Ev := match e with
  | .Constant (.int i) _ _ => eC (.int i)
  | .Constant (.bool i) _ _ => eC (.bl i)
  | .Constant (.str i) _ _ => eC (.str i)
  | .Constant .none _ _ => eC .non
  | .Name x _ => cName Γ c x
  | .BinOp a op b _ => (match opO op with
    | some o => eOp o (E c a) (E c b)
    | none => eStuck)
  | .UnaryOp .USub a _ => eUn oNeg (E c a)
  | .UnaryOp .Not a _ => eT (tNot (tV (E c a)))
  | .BoolOp .And es _ => andE (es.map (E c))
  | .BoolOp .Or es _ => orE (es.map (E c))
  | .Compare a ops bs _ => eT (cmpsE Γ C (E c) a ops bs)
  | .IfExp t a b _ => eIf (T c t) (E c a) (E c b)
  | .Tuple es _ _ => if es.all noStar then eTup (aOf (es.map (E c))) else eStuck
  | .List es _ => if es.all noStar then eLst (aOf (es.map (E c))) else eStuck
  | .Subscript a (.Slice none none (some (.UnaryOp .USub (.Constant (.int 1) _ _) _)) _) _ => eUn oRev (E c a)
  | .Subscript a (.Slice lo hi none _) _ => eCut (E c a) (optO (E c) lo) (optO (E c) hi)
  | .Subscript a b _ => if plainIx b then eOp oIx (E c a) (E c b) else eStuck
  | .Attribute a f _ => if plainBase a then eUn (oFld Γ f) (E c a) else eStuck
  | .Call (.Name x _) args [] _ => cCall Γ C c (E c) x args
  | .Call (.Name x _) [e] [⟨some kw, .Lambda ⟨[], [⟨a, _, _⟩], none, [], [], none, []⟩ body scope _, _⟩] _ => cMin Γ c (E c) EL x kw a e body scope
  | .Call (.Attribute o m apos) args [] pos => cMeth Γ C (E c) o m apos pos args
  | .ListComp elt gs scope _ => cLC Γ c E T elt gs scope
  | .Dict [] [] _ => eDct0
  | .Dict (k :: ks) vs _ => (match cPairs (E c) (k :: ks) vs with
    | some ps => if ks.length < 15 then eDct ps else eStuck
    | none => eStuck)
  | _ => eStuck
def cT (Γ : Pg) (C : Calls) (E : Ct → Expr → Ev) (T : Ct → Expr → Tv) (c : Ct) (e : Expr) : Tv := match e with
  | .UnaryOp .Not a _ => tNot (T c a)
  | .BoolOp .And es _ => andT (es.map (T c))
  | .BoolOp .Or es _ => orT (es.map (T c))
  | .Compare a ops bs _ => cmpsE Γ C (E c) a ops bs
  | .IfExp t a b _ => tIf (T c t) (T c a) (T c b)
  | e => if plainT e then tV (E c e) else tStuck
noncomputable def compN (Γ : Pg) : Nat → Calls → (Ct → Expr → Ev) × (Ct → Expr → Tv)
  | 0, _ => (fun _ _ => eStuck, fun _ _ => tStuck)
  | n + 1, C => (cE Γ C (compN Γ n C).1 (compN Γ n C).2 (compN Γ n calls0).1, cT Γ C (compN Γ n C).1 (compN Γ n C).2)
noncomputable abbrev comp (Γ : Pg) (C : Calls) (n : Nat) : (Ct → Expr → Ev) × (Ct → Expr → Tv) := compN Γ n C

section
variable {Γ : Pg} {X : Cx} {G : GW} {W : WX} {C : Calls} {k : Nat} {c : Ct} {a b e tg : Expr} {es : List Expr} {pos apos : Pos} {x : Str} {E : Ct → Expr → Ev} {T : Ct → Expr → Tv}
theorem se_stuck : SE X G W e eStuck := ⟨fun _ _ _ _ _ _ ⟨_, _, _, _, _, _, h⟩ => h.stuck.elim⟩
theorem st_stuck : ST X G W e tStuck := ⟨fun _ _ _ _ _ _ ⟨_, _, _, _, _, _, h⟩ => h.stuck.elim⟩
theorem si_stuck : SI X G W tg e iStuck := ⟨fun _ _ _ _ _ _ ⟨_, _, _, _, _, _, h⟩ => h.stuck.elim⟩
theorem slot_ok (h : CtOk G X c) {i : Nat} (hi : c.slot x = some i) : X.N[i]? = some x := by
  unfold Ct.slot at hi
  rw [List.findIdx?_eq_some_iff_getElem] at hi
  obtain ⟨h1, h2, _⟩ := hi
  rw [h.hN, List.getElem?_eq_getElem h1]
  exact congrArg some (beq_iff_eq.mp h2)
theorem vis_ok (h : CtOk G X c) (hv : isVis c x = true) : Vis X.env.scope x := by
  unfold isVis at hv
  unfold Vis
  rw [h.hs]
  split at hv
  · exact .inl (by assumption)
  · exact .inr (.inl (by assumption))
  · exact .inr (.inr (by assumption))
  · cases hv
theorem gl_ok (h : CtOk G X c) (hv : isGl c x = true) : Gl X x := by
  unfold isGl at hv
  unfold Gl Env.kindOf
  rw [h.hs]
  split at hv
  · assumption
  · cases hv
theorem bTy_ok {n : String} (h : bTy x = some n) : bootBuiltins x = some (.type n) := by
  unfold bTy at h
  repeat' split at h
  all_goals first
    | (cases h; rename_i hx _; subst hx; decide +kernel)
    | (cases h; rename_i hx; subst hx; decide +kernel)
    | cases h
theorem bad_ok (h : ¬ badName x = true) : (x == ("__debug__" : Str)) = false ∧ (x == ("__classdict__" : Str)) = false ∧ x ≠ "__name__" := by
  unfold badName at h
  simp only [Bool.or_eq_true, not_or, Bool.not_eq_true] at h
  exact ⟨h.1.1, h.1.2, fun e => by rw [e] at h; exact absurd h.2 (by decide)⟩
theorem name_ok (h : CtOk G X c) (g : GY Γ X G W C k) : SE X G W (.Name x pos) (cName Γ c x) := by
  unfold cName
  split
  · exact se_stuck
  · rename_i hb
    obtain ⟨b1, b2, b3⟩ := bad_ok hb
    split
    · rename_i hv
      split
      · rename_i i hi
        exact se_slot (slot_ok h hi) (vis_ok h hv) b1 b2
      · exact se_stuck
    · split
      · rename_i hg
        split
        · rename_i i hx
          exact se_glob g hx (gl_ok h hg) b1
        · rename_i i hx
          exact se_gcls g hx (gl_ok h hg) b1
        · rename_i i hx
          exact se_gint g hx (gl_ok h hg) b1
        · rename_i hx
          split
          · rename_i n hn
            exact se_gty g hx (gl_ok h hg) (bTy_ok hn) b3 b1
          · exact se_stuck
        · exact se_stuck
      · exact se_stuck
theorem opO_ok (g : GY Γ X G W C k) {op : Operator} {o : D → D → M D} (h : opO op = some o) : OpS X G (binaryOp op) o := by
  cases op <;> first
    | (cases h; done)
    | (cases h; first | exact os_add g.hK | exact os_sub | exact os_mul g.hK | exact os_fdiv | exact os_mod | exact os_pow)
theorem cs_notin (hu : X.A.units + 200 < cLine) : CmS X G (compareOp .NotIn) cNotIn := by
  intro W pins s σ H x y v u Q m F S d e I rx ry s' hx hy ⟨r, q, h⟩
  unfold cNotIn M.bind cIn at q
  cases e with
  | ref ri =>
    obtain ⟨a, rfl, ha⟩ := hy
    simp only at q
    cases ec : S[ri]? with
    | none => rw [ec] at q; cases q
    | some cell =>
      rw [ec] at q
      cases cell with
      | dct kvs =>
        simp only at q
        cases ek : keyD d with
        | none => rw [ek] at q; cases q
        | some kk =>
          rw [ek] at q
          cases q
          obtain ⟨ws, w1, w2, w3⟩ := s'.cel _ _ _ ha ec
          have := keyD_kV ek hx
          subst this
          obtain rfl : u = Value.ref a := ry
          refine d_notIn (by omega) I (.k w1) rx fun s3 I3 => ⟨.bl _, H, I3, rfl, _, rfl, ?_⟩
          have hb : (valD kvs kk).isSome = (valV ws kk).isSome := by
            rcases valD_rel (k := kk) w2 w3 with ⟨q1, q2⟩ | ⟨_, _, q1, q2, _⟩
            · rw [q1, q2]; rfl
            · rw [q1, q2]; rfl
          rw [← hb]
          exact h m F H _ .refl s' rfl
      | _ => cases q
  | _ => cases q
theorem cmpO_ok (g : GY Γ X G W C k) (op : CmpOp) : CmW X G W (compareOp op) (cmpO Γ C op) := by
  cases op with
  | Eq => exact cs_own g (.inl rfl) rfl (cs_eq g.hK (units200 g.toGX))
  | NotEq => exact cs_own g (.inr rfl) rfl (cs_ne g.hK (units200 g.toGX))
  | Lt => exact cs_lt.w
  | LtE => exact cs_le.w
  | Gt => exact cs_gt.w
  | GtE => exact cs_ge.w
  | Is => exact cs_is.w
  | IsNot => exact cs_isnot.w
  | In => exact (cs_in (units200 g.toGX)).w
  | NotIn => exact (cs_notin (units200 g.toGX)).w
theorem sa_map {f : Expr → Ev} (h : ∀ e, SE X G W e (f e)) : ∀ {es : List Expr}, es.all noStar = true → SA X G W es (aOf (es.map f))
  | [], _ => sa_nil
  | e :: es, hs => by
    rw [List.all_cons, Bool.and_eq_true] at hs
    exact sa_cons (h e) (sa_map h hs.2) (starEach_one hs.1)
theorem and_ok (g : GX X G W k) {f : Expr → Ev} (h : ∀ e, SE X G W e (f e)) : ∀ {es : List Expr}, SE X G W (.BoolOp .And es pos) (andE (es.map f))
  | [] => se_stuck
  | [a] => se_one (h a)
  | a :: b :: r => se_and g (h a) (and_ok g h (es := b :: r))
theorem or_ok (g : GX X G W k) {f : Expr → Ev} (h : ∀ e, SE X G W e (f e)) : ∀ {es : List Expr}, SE X G W (.BoolOp .Or es pos) (orE (es.map f))
  | [] => se_stuck
  | [a] => se_one (h a)
  | a :: b :: r => se_or g (h a) (or_ok g h (es := b :: r))
theorem pw_stuck : PW X e (tT G W tStuck) := ⟨fun _ _ _ _ _ _ _ ⟨_, _, _, _, _, _, h⟩ => h.stuck.elim⟩
theorem andT_ok {f : Expr → Tv} (h : ∀ e, ST X G W e (f e)) : ∀ {es : List Expr}, PW X (.BoolOp .And es pos) (tT G W (andT (es.map f)))
  | [] => pw_stuck
  | [a] => sw_and1 (h a)
  | a :: b :: r => sw_and (h a) (andT_ok h (es := b :: r))
theorem orT_ok {f : Expr → Tv} (h : ∀ e, ST X G W e (f e)) : ∀ {es : List Expr}, PW X (.BoolOp .Or es pos) (tT G W (orT (es.map f)))
  | [] => pw_stuck
  | [a] => sw_or1 (h a)
  | a :: b :: r => sw_or (h a) (orT_ok h (es := b :: r))
theorem chn_ok (g : GY Γ X G W C k) {f : Expr → Ev} (h : ∀ e, SE X G W e (f e)) : ∀ {ops : List CmpOp} {bs : List Expr} {r : Chn}, chnOf Γ C ops (bs.map f) = some r → SCh X G W ops bs r
  | [], [], _, e => by cases e
  | [], _ :: _, _, e => by cases e
  | [_], [], _, e => by cases e
  | [op], [b], _, e => by cases e; exact .last (cmpO_ok g op) (h b)
  | [op], b :: b' :: bs, _, e => by
    simp only [List.map_cons, chnOf] at e
    cases e
  | op :: op' :: ops, [], _, e => by cases e
  | op :: op' :: ops, [b], _, e => by
    simp only [List.map_cons, List.map_nil, chnOf] at e
    cases e
  | op :: op' :: ops, b :: b' :: bs, r, e => by
    unfold chnOf at e
    simp only [List.map_cons] at e
    split at e
    · rename_i r' hr
      cases e
      exact .more (cmpO_ok g op) (h b) (chn_ok g h (ops := op' :: ops) (bs := b' :: bs) (by simpa using hr))
    · cases e
theorem tStuck_eT : eT tStuck = eStuck := by
  funext ρ S; rfl
theorem cmpsE_ok (g : GY Γ X G W C k) {f : Expr → Ev} (h : ∀ e, SE X G W e (f e)) {ops : List CmpOp} {bs : List Expr} : SE X G W (.Compare a ops bs pos) (eT (cmpsE Γ C f a ops bs)) ∧ ST X G W (.Compare a ops bs pos) (cmpsE Γ C f a ops bs) := by
  unfold cmpsE
  split
  · rename_i op b
    split
    · exact ⟨by rw [tStuck_eT]; exact se_stuck, st_stuck⟩
    · rename_i hm
      exact ⟨se_cmp (cmpO_ok g op) (h a) (h b) (by simpa using hm), st_cmp (cmpO_ok g op) (h a) (h b) (by simpa using hm)⟩
  · rename_i hne
    split
    · exact ⟨by rw [tStuck_eT]; exact se_stuck, st_stuck⟩
    · rename_i hm
      split
      · rename_i r hr
        have hc := chn_ok g h hr
        match ops, bs, hne, hm, hc with
        | op :: op' :: ops, b :: b' :: bs, hne, hm, hc => exact ⟨se_chn (h a) hc (by simpa using hm), st_chn (h a) hc (by simpa using hm)⟩
        | [op], [b], hne, _, _ => exact (hne op b rfl rfl).elim
      · exact ⟨by rw [tStuck_eT]; exact se_stuck, st_stuck⟩
theorem bi1_ok (h : CtOk G X c) (g : GY Γ X G W C k) {f : D → M D} {fa : Ev} (hb : bi1 x = some f) (hx : Γ.gl.lookup x = some .free) (hg : Gl X x) (hn : x ≠ "__name__") (hdb : (x == ("__debug__" : Str)) = false) (ha : SE X G W a fa) (hs : noStar a = true) : SE X G W (.Call (.Name x pos) [a] [] apos) (eUn f fa) := by
  unfold bi1 at hb
  split at hb
  · cases hb; rename_i hh; subst hh; exact se_bi1 g hx hg (by decide +kernel) hn hdb (us_len g.hK) ha hs
  split at hb
  · cases hb; rename_i hh; subst hh; exact se_ty1 g hx hg (by decide +kernel) hn hdb us_int ha hs
  split at hb
  · cases hb; rename_i hh; subst hh; exact se_bi1 g hx hg (by decide +kernel) hn hdb us_abs ha hs
  split at hb
  · cases hb; rename_i hh; subst hh; exact se_ty1 g hx hg (by decide +kernel) hn hdb (us_tup g.hK) ha hs
  split at hb
  · cases hb; rename_i hh; subst hh; exact se_ty1 g hx hg (by decide +kernel) hn hdb (us_lst g.hK) ha hs
  split at hb
  · cases hb; rename_i hh; subst hh; exact se_bi1 g hx hg (by decide +kernel) hn hdb (us_all g.hK g.calm) ha hs
  split at hb
  · cases hb; rename_i hh; subst hh; exact se_bi1 g hx hg (by decide +kernel) hn hdb (us_any g.hK g.calm) ha hs
  split at hb
  · cases hb; rename_i hh; subst hh; exact se_bi1 g hx hg (by decide +kernel) hn hdb (us_sum g.calm) ha hs
  · cases hb
theorem dropIf_ok {fa : Ev} {a' : Expr} (h : SE X G W a fa) : SE X G W a (dropIf a' fa) := by
  unfold dropIf
  split
  · exact se_drop h
  · exact h
theorem isFree_ok (h : isFree Γ x = true) : Γ.gl.lookup x = some .free := by
  unfold isFree at h
  split at h
  · assumption
  · cases h
theorem rngArg_ok {r : Expr} (h : rngArg Γ c x a = some r) : ∃ y p1 p2, a = .Call (.Name y p1) [r] [] p2 ∧ x = "list" ∧ y = "range" ∧ isGl c y = true ∧ isFree Γ y = true ∧ noStar r = true := by
  unfold rngArg at h
  split at h
  · split at h
    · rename_i hh
      cases h
      exact ⟨_, _, _, rfl, hh⟩
    · cases h
  · cases h
theorem slots_ok (h : CtOk G X c) : ∀ {xs : List Str} {js : List Nat}, slots c xs = some js → js.map (fun j => X.N[j]?) = xs.map some
  | [], js, e => by cases e; rfl
  | x :: xs, js, e => by
    unfold slots at e
    split at e
    · rename_i i is h1 h2
      cases e
      rw [List.map_cons, List.map_cons, slots_ok h h2, slot_ok h h1]
    · cases e
theorem cf_ok (h : CtOk G X c) (hv : isCF c x = true) : X.env.scope.names.lookup x = some .cell ∨ X.env.scope.names.lookup x = some .free := by
  unfold isCF at hv
  rw [h.hs]
  split at hv
  · exact .inl (by assumption)
  · exact .inr (by assumption)
  · cases hv
theorem min_ok {an : Option Expr} {ap p kpos lpos : Pos} {kw a' : Str} {body : Expr} {scope : Scope} {f : Expr → Ev} {EL : Ct → Expr → Ev} (h : CtOk G X c) (g : GY Γ X G W C k) (hE : ∀ e, SE X G W e (f e))
    (hL : ∀ (X : Cx) (W : WX) (c : Ct) (e : Expr), CtOk G X c → GY Γ X G W calls0 0 → SE X G W e (EL c e)) :
    SE X G W (.Call (.Name x p) [e] [⟨some kw, .Lambda ⟨[], [⟨a', an, ap⟩], none, [], [], none, []⟩ body scope lpos, kpos⟩] pos) (cMin Γ c f EL x kw a' e body scope) := by
  unfold cMin
  split
  · rename_i hh
    obtain ⟨rfl, rfl, h1, h2, h3, h4, h5, h6, h7⟩ := hh
    split
    · rename_i js hjs
      refine se_min g h2 (h.hl h1) (isFree_ok h5) (gl_ok h h4) (hE e) h3 (nscope_by h6) (fun y hy e => ?_) (fun y hy => ?_) (slots_ok h hjs) fun F ff A outer s H E hF hr => hL _ _ _ _ ⟨rfl, hF, (fun _ z => Bool.noConfusion z), (fun z => Bool.noConfusion z)⟩ (gy_ncx g (nscope_by h6).nd hr)
      · have := List.all_eq_true.mp h7 y hy
        rw [e] at this
        exact cf_ok h (by simpa using this)
      · unfold freeOf at hy
        obtain ⟨z, hz, e⟩ := List.mem_filterMap.mp hy
        split at e
        · rename_i hf
          cases e
          have : z.2 = .free := beq_iff_eq.mp hf
          rw [← this]
          exact hz
        · cases e
    · exact se_stuck
  · exact se_stuck
theorem call_ok (h : CtOk G X c) (g : GY Γ X G W C k) {f : Expr → Ev} (hE : ∀ e, SE X G W e (f e)) : SE X G W (.Call (.Name x pos) es [] apos) (cCall Γ C c f x es) := by
  unfold cCall
  split
  · exact se_stuck
  · rename_i hb
    simp only [Bool.or_eq_true, not_or, Bool.not_eq_true', Bool.not_eq_true, Bool.not_eq_false] at hb
    obtain ⟨⟨hb, hg⟩, hst⟩ := hb
    obtain ⟨b1, b2, b3⟩ := bad_ok (x := x) (by simp [hb])
    have hg := gl_ok h hg
    split
    · rename_i i hx
      split
      · rename_i fd hf
        match es, hst with
        | [], _ => exact se_call0 g hx hg hf b1
        | e :: es, hst =>
          have hst' := hst
          rw [List.all_cons, Bool.and_eq_true] at hst'
          exact se_call g hx hg hf (sa_map hE hst) b1 (starEach_one hst'.1) (noStar_any hst'.2)
      · exact se_stuck
    · rename_i cl hx
      split
      · rename_i cd hcd
        split
        · rename_i i hi
          split
          · rename_i fd hf
            split
            · rename_i hl
              match es, hst with
              | [], _ =>
                have : SE X G W (.Call (.Name x pos) [] [] apos) (eNew C cl (fd.ps.length - 1) aNil) := by
                  by_cases h1 : fd.ps.length = 1
                  · rw [h1]
                    exact se_new0 g hx hg hcd hi hf (by omega) b1
                  · refine ⟨fun pins s σ H Q I hh => ?_⟩
                    obtain ⟨m, F, ρ, S, s', _, r⟩ := hh
                    have r : Run G W σ (relD G) (.guard (([] : List D).length = fd.ps.length - 1) (C.new cl [])) m F S Q := r
                    obtain ⟨hl2, _⟩ := r.guard
                    simp only [List.length_nil] at hl2
                    omega
                exact this
              | e :: es, hst =>
                have hst' := hst
                rw [List.all_cons, Bool.and_eq_true] at hst'
                exact se_new g hx hg hcd hi hf (by omega) (sa_map hE hst) b1 (starEach_one hst'.1) (noStar_any hst'.2)
            · exact se_stuck
          · exact se_stuck
        · exact se_stuck
      · exact se_stuck
    · rename_i hx
      match es, hst with
      | [], _ => exact se_stuck
      | [a], hst =>
        simp only
        split
        · rename_i r hr
          obtain ⟨y, p1, p2, rfl, hx1, hx2, hy, hyf, hsr⟩ := rngArg_ok hr
          subst hx1 hx2
          exact se_lstRg g.toGX hg (g.wf.free _ hx) (gl_ok h hy) (g.wf.free _ (isFree_ok hyf)) (hE r) hsr
        split
        · rename_i ff hff
          exact dropIf_ok (bi1_ok h g hff hx hg b3 b1 (hE a) (by simpa using hst))
        · exact se_stuck
      | [a, b], hst =>
        simp only
        split
        · rename_i hi
          subst hi
          simp only [List.all_cons, List.all_nil, Bool.and_true, Bool.and_eq_true] at hst
          exact se_bi2 g hx hg (by decide +kernel) b3 b1 (os_isi g) (hE a) (hE b) hst.1 hst.2
        · exact se_stuck
      | _ :: _ :: _ :: _, _ => exact se_stuck
    · exact se_stuck
end
end MP

/-! MPR: expressions are as their image. -/
namespace MP
open PySem PySem.Spec PyProof.Rows L2
section
variable {Γ : Pg} {X : Cx} {G : GW} {W : WX} {C : Calls} {k : Nat} {c : Ct} {a b e o tg it elt : Expr} {es ifs : List Expr} {pos apos : Pos} {x m : Str} {E : Ct → Expr → Ev} {T : Ct → Expr → Tv}
theorem few_ok (hst : es.all noStar = true) (hl : es.length < 30) : ((backTo pos (starEach es X.env)).all (fun x => !x.1) && (backToKw pos (keywordEach [] X.env)).all (fun x => x.1.isSome)
      && decide (es.length + ([] : List Keyword).length + (if ([] : List Keyword).isEmpty then 0 else 1) < 30)) = true := by
  rw [noStar_all hst]
  have : es.length + ([] : List Keyword).length + (if ([] : List Keyword).isEmpty then 0 else 1) < 30 := by simpa using hl
  rw [decide_eq_true this]
  rfl
theorem bm_ok (hK : X.K = G.K) {f : Expr → Ev} (hE : ∀ e, SE X G W e (f e)) {p : String × (D → List D → M D)} (hb : bm m es.length = some p) (hst : es.all noStar = true) (hl : es.length < 30) (hpb : plainBase o = true) (hline : (apos.endLine == pos.line) = true) :
    SE X G W (.Call (.Attribute o m apos) es [] pos) (eM p.1 p.2 (f o) (aOf (es.map f))) := by
  unfold bm at hb
  split at hb
  · rename_i h1
    cases hb
    obtain ⟨rfl, h2⟩ := h1
    match es, h2, hst, hl with
    | [a], _, hst, hl =>
      have hst' := hst
      rw [List.all_cons, Bool.and_eq_true] at hst'
      exact se_bm hK mi_append PySem.F.plainAttrs_list PySem.F.slot_list_append PySem.F.type_list_append (hE o) (sa_map hE hst) hpb (few_ok hst hl) hline (starEach_one hst'.1) (noStar_any hst'.2)
  split at hb
  · rename_i h1
    cases hb
    obtain ⟨rfl, h2⟩ := h1
    match es, h2 with
    | [], _ => exact se_bm0 hK mi_pop PySem.F.plainAttrs_list PySem.F.slot_list_pop PySem.F.type_list_pop (hE o) hpb hline
  split at hb
  · rename_i h1
    cases hb
    obtain ⟨rfl, h2⟩ := h1
    match es, h2, hst, hl with
    | [a], _, hst, hl =>
      have hst' := hst
      rw [List.all_cons, Bool.and_eq_true] at hst'
      exact se_bm hK mi_popAt PySem.F.plainAttrs_list PySem.F.slot_list_pop PySem.F.type_list_pop (hE o) (sa_map hE hst) hpb (few_ok hst hl) hline (starEach_one hst'.1) (noStar_any hst'.2)
  split at hb
  · rename_i h1
    cases hb
    obtain ⟨rfl, h2⟩ := h1
    match es, h2, hst, hl with
    | [a], _, hst, hl =>
      have hst' := hst
      rw [List.all_cons, Bool.and_eq_true] at hst'
      exact se_bm hK mi_extend PySem.F.plainAttrs_list PySem.F.slot_list_extend PySem.F.type_list_extend (hE o) (sa_map hE hst) hpb (few_ok hst hl) hline (starEach_one hst'.1) (noStar_any hst'.2)
  · cases hb
theorem ev_meth (hst : es.all noStar = true) (hl : es.length < 30) (hpb : plainBase o = true) (hline : (apos.endLine == pos.line) = true) : eval (.Call (.Attribute o m apos) es [] pos) X.env = (do
      let ov ← eval o X.env
      standAt apos.atName
      let (f, first) ← holding [ov] (getMethod ov m (plainOf o X.env))
      callWith pos f first (backTo pos (starEach es X.env)) (backToKw pos (keywordEach [] X.env))) := by
  rw [arm_eval_Call, plainBase_eq hpb]
  congr 1
  funext ov
  congr 1
  funext _
  have hf : methodCallForm (es.length + ([] : List Keyword).length) (backTo pos (starEach es X.env)) (backToKw pos (keywordEach [] X.env)) = true := few_ok hst hl
  exact mcall_line hf hline
theorem meth_ok (g : GY Γ X G W C k) {f : Expr → Ev} (hE : ∀ e, SE X G W e (f e)) : SE X G W (.Call (.Attribute o m apos) es [] pos) (cMeth Γ C f o m apos pos es) := by
  unfold cMeth
  split
  · exact se_stuck
  · rename_i hb
    simp only [Bool.or_eq_true, not_or, Bool.not_eq_true', Bool.not_eq_true, Bool.not_eq_false, decide_eq_true_eq, decide_eq_false_iff_not] at hb
    obtain ⟨⟨⟨h1, h2⟩, h3⟩, h4⟩ := hb
    have h4 : es.length < 30 := by omega
    split
    · match es, h2, h4 with
      | [], h2, h4 => exact se_meth0 g (hE o) ⟨_, ev_meth h2 h4 h1 h3⟩
      | e :: es, h2, h4 =>
        have h2' := h2
        rw [List.all_cons, Bool.and_eq_true] at h2'
        exact se_meth g (hE o) (sa_map hE h2) h1 (few_ok h2 h4) h3 (starEach_one h2'.1) (noStar_any h2'.2) ⟨_, ev_meth h2 h4 h1 h3⟩
    · split
      · rename_i p hp
        exact bm_ok g.hK hE hp h2 h4 h1 h3
      · exact se_stuck
theorem free_ok (h : isFree Γ x = true) : Γ.gl.lookup x = some .free := by
  unfold isFree at h
  split at h
  · assumption
  · cases h
theorem rng_ok (h : CtOk G X c) (g : GY Γ X G W C k) {y : Str} (hr : rngName Γ c x y = true) : x = y ∧ Gl X x ∧ X.mg x = none := by
  unfold rngName at hr
  rw [Bool.and_eq_true, Bool.and_eq_true] at hr
  exact ⟨of_decide_eq_true hr.1.1, gl_ok h hr.1.2, g.wf.free _ (free_ok hr.2)⟩
theorem iter_ok (h : CtOk G X c) (g : GY Γ X G W C k) {f : Expr → Ev} (hE : ∀ e, SE X G W e (f e)) : SI X G W tg it (cIter Γ c f tg it) := by
  unfold cIter
  split
  · rename_i x p a p2
    split
    · rename_i hr
      rw [Bool.and_eq_true] at hr
      obtain ⟨rfl, r2, r3⟩ := rng_ok h g hr.1
      exact si_rng1 r2 r3 (hE a) hr.2
    · split
      · rename_i hr
        rw [Bool.and_eq_true, Bool.and_eq_true] at hr
        obtain ⟨rfl, r2, r3⟩ := rng_ok h g hr.1.1
        cases tg with
        | Tuple elts kk tp => exact si_enum g.hK r2 r3 (hE a) hr.1.2
        | _ => cases hr.2
      · exact si_seq g.hK (hE _)
  · rename_i x p a b p2
    split
    · rename_i hr
      rw [Bool.and_eq_true, Bool.and_eq_true] at hr
      obtain ⟨rfl, r2, r3⟩ := rng_ok h g hr.1.1
      exact si_rng2 r2 r3 (hE a) (hE b) hr.1.2 hr.2
    · split
      · rename_i hr
        rw [Bool.and_eq_true, Bool.and_eq_true, Bool.and_eq_true] at hr
        obtain ⟨rfl, r2, r3⟩ := rng_ok h g hr.1.1.1
        cases tg with
        | Tuple elts kk tp => exact si_zip g.hK r2 r3 (hE a) (hE b) hr.1.1.2 hr.1.2
        | _ => cases hr.2
      · exact si_seq g.hK (hE _)
  · split
    · exact si_stuck
    · exact si_seq g.hK (hE _)
theorem folded_ok (h : isSetE it = false) : ∀ x, foldedSetIterable it X.env x = pure x := by
  intro x
  cases it <;> first
    | rfl
    | cases h
theorem tgName_ok (h : CtOk G X c) {i : Nat} (ht : tgName c x = some i) : X.N[i]? = some x ∧ Loc X.env.scope x ∧ (X.fn x = true ∨ X.env.scope.names.lookup x = some .local) := by
  unfold tgName at ht
  unfold L2.Loc
  rw [h.hs]
  split at ht
  · rename_i hl
    exact ⟨slot_ok h ht, .inl hl, .inr hl⟩
  · rename_i hl
    split at ht
    · rename_i hf
      exact ⟨slot_ok h ht, .inr hl, .inl (h.hf x hf)⟩
    · cases ht
  · cases ht
theorem tgNames_ok (h : CtOk G X c) : ∀ {es : List Expr} {is : List Nat}, tgNames c es = some is → Names X es is
  | [], is, e => by cases e; exact .nil
  | e :: es, is, he => by
    unfold tgNames at he
    split at he
    · rename_i heq; cases heq
    · rename_i x p r heq
      cases heq
      split at he
      · rename_i i is' h1 h2
        cases he
        obtain ⟨q1, q2, q3⟩ := tgName_ok h h1
        exact .cons q1 q2 q3 (tgNames_ok h h2)
      · cases he
    · cases he
theorem tg_ok (h : CtOk G X c) (g : GX X G W k) {t : Tg} (ht : cTg c tg = some t) : SG X tg t := by
  unfold cTg at ht
  split at ht
  · rename_i x p
    obtain ⟨i, h1, rfl⟩ := Option.map_eq_some_iff.mp ht
    obtain ⟨q1, q2, q3⟩ := tgName_ok h h1
    exact sg_one g.nd q1 q2 q3
  · rename_i es kk p
    obtain ⟨is, h1, rfl⟩ := Option.map_eq_some_iff.mp ht
    exact sg_many g.calm g.nd (tgNames_ok h h1)
  · cases ht
theorem ifs_ok {f : Expr → Tv} (hT : ∀ e, ST X G W e (f e)) {fc : Tv} (hf : cIfs f ifs = some fc) : PTs X ifs (tT G W fc) := by
  unfold cIfs at hf
  split at hf
  · cases hf
    refine ⟨fun pins s σ H Q I hw => pts_nil.run pins s σ H Q I ?_⟩
    obtain ⟨m, F, ρ, S, s', hρ, r⟩ := hw
    exact r.ret s' rfl
  · cases hf
    exact pts_one (hT _)
  · cases hf
/-- expressions at every context -/
def OkE (Γ : Pg) (G : GW) (C : Calls) (k : Nat) (E : Ct → Expr → Ev) : Prop := ∀ (X : Cx) (W : WX) (c : Ct) (e : Expr), CtOk G X c → GY Γ X G W C k → SE X G W e (E c e)
def OkT (Γ : Pg) (G : GW) (C : Calls) (k : Nat) (T : Ct → Expr → Tv) : Prop := ∀ (X : Cx) (W : WX) (c : Ct) (e : Expr), CtOk G X c → GY Γ X G W C k → ST X G W e (T c e)
theorem blk_ct (h : CtOk G X c) {scope : Scope} {s : Shared} {H : Hp} {Ca : Addr} {cl : List (Str × Addr)} {fp : List Addr} : CtOk G (X.blk s H scope (compEnvC scope cl Ca X.env) fp) ⟨c.N, relS scope c.sc, fun x => scope.names.lookup x == some .cell, false⟩ :=
  ⟨h.hN, by rw [← h.hs]; rfl, (fun _ z => z), (fun z => Bool.noConfusion z)⟩
theorem blk_gy (g : GY Γ X G W C k) {scope : Scope} {s : Shared} {H : Hp} {Ca : Addr} {cl : List (Str × Addr)} {fp : List Addr} : GY Γ (X.blk s H scope (compEnvC scope cl Ca X.env) fp) G W0 C k :=
  ⟨⟨g.hK, g.calm, g.nd, g.room, LamX.takes0⟩, g.wf, ⟨g.calls.fn, g.calls.new⟩⟩
theorem comp_ok1 (h : CtOk G X c) (g : GY Γ X G W C k) (hE : OkE Γ G C k E) (hT : OkT Γ G C k T) {scope : Scope} : SE X G W (.ListComp elt [⟨tg, it, ifs, 0⟩] scope pos) (cComp Γ c E T elt tg it ifs scope) := by
  unfold cComp
  simp only
  split
  · rename_i hb
    rw [Bool.and_eq_true] at hb
    obtain ⟨hb, hn⟩ := hb
    have hn : isSetE it = false := by simpa using hn
    split
    · rename_i t fc ht hf
      split
      · rename_i hs
        have ok := blkOk_by hb
        rw [← h.hN, ← h.hs] at ok
        rw [← h.hN] at hs ⊢
        refine se_comp g.toGX (iter_ok h g fun e => hE X W c e h g) ok (fun s H Ca cl fp => ?_) (fun s H Ca cl fp => ?_) (fun s H Ca cl fp => ?_) (folded_ok hn) (fun i hi => ?_)
        · refine tg_ok (c := ⟨c.N, relS scope c.sc, fun x => scope.names.lookup x == some .cell, false⟩) (blk_ct h) (blk_gy g).toGX ?_
          exact ht
        · exact ifs_ok (fun e => hT _ W0 _ e (blk_ct h) (blk_gy g)) hf
        · rw [h.hN]
          exact hE _ W0 _ elt (blk_ct h) (blk_gy g)
        · have := List.all_eq_true.mp hs i hi
          exact List.contains_iff_mem.mp this
      · exact se_stuck
    · exact se_stuck
  · exact se_stuck
theorem lc_ok (h : CtOk G X c) (g : GY Γ X G W C k) (hE : OkE Γ G C k E) (hT : OkT Γ G C k T) {scope : Scope} {gs : List Comprehension} : SE X G W (.ListComp elt gs scope pos) (cLC Γ c E T elt gs scope) := by
  unfold cLC
  split
  · rename_i gg
    split
    · rename_i h0
      obtain ⟨tg, it, ifs, n⟩ := gg
      obtain rfl : n = 0 := h0
      exact comp_ok1 h g hE hT
    · exact se_stuck
  · exact se_stuck
theorem pairs_ok {f : Expr → Ev} (hE : ∀ e, SE X G W e (f e)) : ∀ {ks : List (Option Expr)} {vs : List Expr} {ps : List (Ev × Ev)}, cPairs f ks vs = some ps → PPs X pos ks vs (trP G W ps) ∧ ks.all (·.isSome) = true ∧ ks.length = vs.length
  | [], [], ps, e => by cases e; exact ⟨pps_nil, rfl, rfl⟩
  | [], _ :: _, ps, e => by cases e
  | none :: _, _, ps, e => by cases e
  | some k :: ks, [], ps, e => by cases e
  | some k :: ks, v :: vs, ps, e => by
    unfold cPairs at e
    obtain ⟨r, h1, rfl⟩ := Option.map_eq_some_iff.mp e
    obtain ⟨q1, q2, q3⟩ := pairs_ok hE h1
    exact ⟨pps_cons (hE k) (hE v) q1, by simpa using q2, by simp [q3]⟩
theorem opt_ok {f : Expr → Ev} (hE : ∀ e, SE X G W e (f e)) : ∀ (oe : Option Expr), SO X G W oe (optO f oe)
  | none => so_none
  | some e => so_some (hE e)
theorem plain_ix (h : plainIx b = true) : PlainIx b := by
  intro o i
  cases b <;> first
    | rfl
    | cases h
theorem cE_ok {EL : Ct → Expr → Ev} (hE : OkE Γ G C k E) (hT : OkT Γ G C k T) (hL : OkE Γ G calls0 0 EL) : OkE Γ G C k (cE Γ C E T EL) := by
  intro X W c e h g
  have hE' : ∀ e, SE X G W e (E c e) := fun e => hE X W c e h g
  have hT' : ∀ e, ST X G W e (T c e) := fun e => hT X W c e h g
  unfold cE
  split
  · exact se_int
  · exact se_bool
  · exact se_str
  · exact se_none
  · exact name_ok h g
  · split
    · rename_i o ho
      exact se_op (opO_ok g ho) (hE' _) (hE' _)
    · exact se_stuck
  · exact se_un us_neg (hE' _)
  · exact se_not g.toGX (hE' _)
  · exact and_ok g.toGX hE'
  · exact or_ok g.toGX hE'
  · exact (cmpsE_ok g hE').1
  · exact se_if (hT' _) (hE' _) (hE' _)
  · split
    · rename_i hs; exact se_tup (sa_map hE' hs)
    · exact se_stuck
  · split
    · rename_i hs; exact se_lst (sa_map hE' hs)
    · exact se_stuck
  · exact se_rev g.toGX (hE' _)
  · exact se_cut g.toGX (hE' _) (opt_ok hE' _) (opt_ok hE' _)
  · split
    · rename_i hs; exact se_ix g.toGX (hE' _) (hE' _) (plain_ix hs)
    · exact se_stuck
  · split
    · rename_i hs; exact se_fld g (hE' _) hs
    · exact se_stuck
  · exact call_ok h g hE'
  · exact min_ok h g hE' hL
  · exact meth_ok g hE'
  · exact lc_ok h g hE hT
  · exact se_dct0
  · split
    · rename_i ps hp
      split
      · rename_i hl
        obtain ⟨q1, q2, q3⟩ := pairs_ok hE' hp
        exact se_dct q1 q2 q3 (by simp) (by simp; omega)
      · exact se_stuck
    · exact se_stuck
  · exact se_stuck
theorem cT_ok (hE : OkE Γ G C k E) (hT : OkT Γ G C k T) : OkT Γ G C k (cT Γ C E T) := by
  intro X W c e h g
  have hE' : ∀ e, SE X G W e (E c e) := fun e => hE X W c e h g
  have hT' : ∀ e, ST X G W e (T c e) := fun e => hT X W c e h g
  unfold cT
  split
  · exact st_not (hT' _)
  · exact (andT_ok hT').pt
  · exact (orT_ok hT').pt
  · exact (cmpsE_ok g hE').2
  · exact st_if (hT' _) (hT' _) (hT' _)
  · split
    · rename_i hp
      refine st_val g.toGX (hE' _) ?_
      intro whole
      cases e <;> first
        | rfl
        | cases hp
    · exact st_stuck
theorem compN_ok : ∀ (n : Nat) (C : Calls) (k : Nat), OkE Γ G C k (compN Γ n C).1 ∧ OkT Γ G C k (compN Γ n C).2
  | 0, _, _ => ⟨fun _ _ _ _ _ _ => se_stuck, fun _ _ _ _ _ _ => st_stuck⟩
  | n + 1, C, k => ⟨cE_ok (compN_ok n C k).1 (compN_ok n C k).2 (compN_ok n calls0 0).1, cT_ok (compN_ok n C k).1 (compN_ok n C k).2⟩
theorem comp_ok (n : Nat) : OkE Γ G C k (comp Γ C n).1 ∧ OkT Γ G C k (comp Γ C n).2 := compN_ok n C k
end
end MP

/-! MPS: from the text's statements to the interpreter. -/
namespace MP
open PySem PySem.Spec PyProof.Rows L2

def swapQ (kind : Str → Option NameKind) (ts vs : List Expr) : Option (Option (List Str)) :=
  if (!(ts.length == 2 || ts.length == 3) || vs.length != ts.length) = true then some none else
  if (vs.any fun | .Starred .. => true | _ => false) = true then some none else
  let line := (ts.head?.map (·.pos.line)).getD 0
  let names := ts.filterMap fun
    | .Name id pos => if kind id == some .local && pos.line == line then some id else none
    | _ => none
  if (names.length != ts.length || names.eraseDups.length != names.length) = true then some none else
  if vs.all (foldedForSure 8) = true then some none else
  if vs.all (constantsAlone 8) = true then none else some (some names)
theorem swapQ_ok {env : Env} {ts vs : List Expr} {k k2 : Nat} {p p2 : Pos} {r : Option (List Str)} (hb : env.blockKind = .function) (h : swapQ env.kindOf ts vs = some r) : swappedStores [.Tuple ts k p] (.Tuple vs k2 p2) env = pure r := by
  unfold swapQ at h
  unfold swappedStores
  simp only [hb] at h ⊢
  split at h
  · rename_i h1
    cases h
    exact if_pos (by rw [Bool.or_eq_true, h1]; exact .inl rfl)
  rename_i h1
  refine (if_neg (by rw [Bool.or_eq_true]; rintro (z | z); exact h1 z; cases z)).trans ?_
  split at h
  · rename_i h2
    cases h
    exact if_pos h2
  rename_i h2
  refine (if_neg h2).trans ?_
  split at h
  · rename_i h3
    cases h
    exact if_pos h3
  rename_i h3
  refine (if_neg h3).trans ?_
  split at h
  · rename_i h4
    cases h
    exact if_pos h4
  rename_i h4
  refine (if_neg h4).trans ?_
  split at h
  · cases h
  rename_i h5
  cases h
  exact if_neg h5

def isCompE : Expr → Bool
  | .ListComp _ _ _ _ => true
  | .SetComp _ _ _ _ => true
  | .DictComp _ _ _ _ _ => true
  | _ => false
def isStarE : Expr → Bool
  | .Starred _ _ => true
  | _ => false
def allSome {α : Type} : List (Option α) → Option (List α)
  | [] => some []
  | some a :: r => (allSome r).map (a :: ·)
  | none :: _ => none
/-- a target -/
def cG (Γ : Pg) (c : Ct) (E : Expr → Ev) : Nat → Expr → Option Gv
  | 0, _ => none
  | n + 1, e => match e with
    | .Name x _ => (tgName c x).map gOne
    | .Subscript o i _ => if plainIx i then some (gSubS (E o) (E i)) else none
    | .Attribute o f _ => some (gFldS Γ f (E o))
    | .Tuple es _ _ => (allSome (es.map (cG Γ c E n))).map gTupG
    | _ => none
/-- a name's own slot, one of the def's locals -/
def locName (c : Ct) (x : Str) : Option Nat := match c.sc.names.lookup x with
  | some .local => c.slot x
  | _ => none
def cAsgG (Γ : Pg) (c : Ct) (E : Expr → Ev) (tg e : Expr) : Sv := match cG Γ c E 4 tg with
  | some g => sAsg g (E e)
  | none => sStuck
def isLCE : Expr → Option (Scope × Pos)
  | .ListComp _ _ s p => some (s, p)
  | _ => none
def cTupA (Γ : Pg) (c : Ct) (E : Expr → Ev) (ts : List Expr) (k : Nat) (p : Pos) (vs : List Expr) (k2 : Nat) (p2 : Pos) : Sv := match swapQ (fun x => c.sc.names.lookup x) ts vs with
  | none => sStuck
  | some none => cAsgG Γ c E (.Tuple ts k p) (.Tuple vs k2 p2)
  | some (some xs) => (match xs, ts, vs with
    | [x1, x2], [.Name y1 _, .Name y2 _], [a, b] => (match locName c y1, locName c y2 with
      | some i, some j => if x1 = y1 ∧ x2 = y2 ∧ i ≠ j ∧ [a, b].all noStar = true then sPar [i, j] (aOf ([a, b].map E)) else sStuck
      | _, _ => sStuck)
    | [x1, x2, x3], [.Name y1 _, .Name y2 _, .Name y3 _], [a, b, d] => (match locName c y1, locName c y2, locName c y3 with
      | some i, some j, some l => if (x1 = y1 ∧ x2 = y2 ∧ x3 = y3) ∧ (i ≠ j ∧ i ≠ l ∧ j ≠ l) ∧ [a, b, d].all noStar = true then sPar [i, j, l] (aOf ([a, b, d].map E)) else sStuck
      | _, _, _ => sStuck)
    | _, _, _ => sStuck)
def cAsg (Γ : Pg) (c : Ct) (E : Expr → Ev) (tg e : Expr) : Sv := match e with
  | .SetComp _ _ _ _ => sStuck
  | .DictComp _ _ _ _ _ => sStuck
  | .ListComp _ _ _ _ => (match tg with
    | .Name x _ => (match tgName c x with
      | some i => sAsg (gOne i) (E e)
      | none => sStuck)
    | tg => cAsgG Γ c E tg e)
  | .Tuple vs k2 p2 => (match tg with
    | .Tuple ts k p => cTupA Γ c E ts k p vs k2 p2
    | .List _ _ => sStuck
    | tg => cAsgG Γ c E tg e)
  | e => (match tg with
    | .List _ _ => sStuck
    | tg => cAsgG Γ c E tg e)
def sts (f : Stmt → Sv) : List Stmt → Sv
  | [] => sNx
  | [s] => f s
  | s :: t :: r => sSeq (f s) (sts f (t :: r))
noncomputable def cS (Γ : Pg) (C : Calls) (c : Ct) (E : Expr → Ev) (T : Expr → Tv) (B : List Stmt → Sv) (st : Stmt) : Sv := match st with
  | .Expr (.Constant (.str _) _ _) _ => sNx
  | .Expr e _ => if isCompE e then sStuck else sDrop (E e)
  | .Return (some e) _ => sRet (E e)
  | .Return none _ => sRt .non
  | .If t a b _ => sIf (T t) (B a) (B b)
  | .While t b [] _ => sWhile (T t) (B b)
  | .For tg it b [] _ => if isSetE it then sStuck else (match cTg c tg with
    | some t => sFor (cIter Γ c E tg it) t (B b)
    | none => sStuck)
  | .Assign [tg] e _ => cAsg Γ c E tg e
  | .Pass _ => sNx
  | .Break _ => sBk
  | .Continue _ => sCt
  | _ => sStuck
noncomputable def compS (Γ : Pg) (C : Calls) (c : Ct) : Nat → Stmt → Sv
  | 0, _ => sStuck
  | n + 1, st => cS Γ C c ((comp Γ C 30).1 c) ((comp Γ C 30).2 c) (sts (compS Γ C c n)) st
noncomputable def compB (Γ : Pg) (C : Calls) (c : Ct) (b : List Stmt) : Sv := sts (compS Γ C c 20) b

section
variable {Γ : Pg} {X : Cx} {G : GW} {W : WX} {C : Calls} {k : Nat} {c : Ct} {a b e o tg it elt : Expr} {es ifs : List Expr} {pos apos : Pos} {x m : Str} {E : Expr → Ev} {T : Expr → Tv} {st : Stmt} {sl : List Stmt}
theorem ss_stuck : SS X G W st sStuck := ⟨fun _ _ _ _ _ _ ⟨_, _, _, _, _, _, _, q, _⟩ => by cases q⟩
theorem allSome_ok {α : Type} : ∀ {l : List (Option α)} {r : List α}, allSome l = some r → l = r.map some
  | [], r, h => by cases h; rfl
  | some a :: l, r, h => by
    unfold allSome at h
    obtain ⟨r', h1, rfl⟩ := Option.map_eq_some_iff.mp h
    rw [allSome_ok h1]; rfl
  | none :: _, _, h => by cases h
theorem cG_ok (h : CtOk G X c) (g : GY Γ X G W C k) (hE : ∀ e, SE X G W e (E e)) : ∀ (n : Nat) {e : Expr} {gv : Gv}, cG Γ c E n e = some gv → SGv X G W e gv ∧ gv.plain ∧ (∀ es, assignEach (e :: es) X.env = (false, assign e X.env) :: assignEach es X.env)
  | 0, _, _, h => by cases h
  | n + 1, e, gv, he => by
    unfold cG at he
    split at he
    · rename_i x p
      obtain ⟨i, h1, rfl⟩ := Option.map_eq_some_iff.mp he
      obtain ⟨q1, q2, q3⟩ := tgName_ok h h1
      exact ⟨sgv_one g.nd q1 q2 q3, gOne_plain, fun _ => rfl⟩
    · rename_i o i p
      split at he
      · rename_i hp
        cases he
        refine ⟨sgv_sub g.toGX (hE o) (hE i) fun v => ?_, gSubS_plain, fun _ => rfl⟩
        cases i <;> first
          | rfl
          | cases hp
      · cases he
    · rename_i o f p
      cases he
      exact ⟨sgv_fld g (hE o), gFldS_plain, fun _ => rfl⟩
    · rename_i es kk p
      obtain ⟨gs, h1, rfl⟩ := Option.map_eq_some_iff.mp he
      have h2 := allSome_ok h1
      have all : ∀ (es : List Expr) (gs : List Gv), es.map (cG Γ c E n) = gs.map some → SGs X G W es gs ∧ ∀ g ∈ gs, g.plain := by
        intro es
        induction es with
        | nil =>
          intro gs hh
          cases gs with
          | nil => exact ⟨.nil, fun _ z => by cases z⟩
          | cons _ _ => cases hh
        | cons e es ih =>
          intro gs hh
          cases gs with
          | nil => cases hh
          | cons gv gs =>
            simp only [List.map_cons, List.cons.injEq] at hh
            obtain ⟨p1, p2, p3⟩ := cG_ok h g hE n hh.1
            obtain ⟨i1, i2⟩ := ih gs hh.2
            exact ⟨.cons p1 (p3 es) i1, fun z hz => by
              rcases List.mem_cons.mp hz with rfl | hz
              · exact p2
              · exact i2 z hz⟩
      obtain ⟨r1, r2⟩ := all es gs h2
      exact ⟨sgv_tup g.calm g.hK r1, gTupG_plain r2, fun _ => rfl⟩
    · cases he
theorem asgG_ok (h : CtOk G X c) (g : GY Γ X G W C k) (hE : ∀ e, SE X G W e (E e)) (hs : swapsWithSole [tg] e pos.line X.env = pure false) (hw : swappedStores [tg] e X.env = pure none) : SS X G W (.Assign [tg] e pos) (cAsgG Γ c E tg e) := by
  unfold cAsgG
  split
  · rename_i gv hg
    obtain ⟨p1, p2, p3⟩ := cG_ok h g hE 4 hg
    exact ss_asg p2 (hE e) p1 hs hw (by rw [p3]; rfl)
  · exact ss_stuck
theorem locName_ok (h : CtOk G X c) {i : Nat} (hl : locName c x = some i) : X.N[i]? = some x ∧ X.env.scope.names.lookup x = some .local := by
  unfold locName at hl
  rw [h.hs]
  split at hl
  · rename_i hk; exact ⟨slot_ok h hl, hk⟩
  · cases hl
theorem tupA_ok (h : CtOk G X c) (g : GY Γ X G W C k) (hE : ∀ e, SE X G W e (E e)) (hb : X.env.blockKind = .function) {ts vs : List Expr} {k1 k2 : Nat} {p p2 : Pos} : SS X G W (.Assign [.Tuple ts k1 p] (.Tuple vs k2 p2) pos) (cTupA Γ c E ts k1 p vs k2 p2) := by
  unfold cTupA
  have hkind : (fun x => c.sc.names.lookup x) = X.env.kindOf := by
    funext x; unfold Env.kindOf; rw [h.hs]
  rw [hkind]
  split
  · exact ss_stuck
  · rename_i hq
    exact asgG_ok h g hE rfl (swapQ_ok hb hq)
  · rename_i xs hq
    have hw := swapQ_ok (k := k1) (k2 := k2) (p := p) (p2 := p2) hb hq
    split
    · rename_i x1 x2 y1 q1 y2 q2 a b
      split
      · rename_i i j hi hj
        split
        · rename_i hc
          obtain ⟨rfl, rfl, hij, hst⟩ := hc
          obtain ⟨a1, a2⟩ := locName_ok h hi
          obtain ⟨b1, b2⟩ := locName_ok h hj
          exact ss_par2 g.toGX a1 b1 hij a2 b2 (sa_map hE hst) hw
        · exact ss_stuck
      · exact ss_stuck
    · rename_i x1 x2 x3 y1 q1 y2 q2 y3 q3 a b d
      split
      · rename_i i j l hi hj hl
        split
        · rename_i hc
          obtain ⟨⟨rfl, rfl, rfl⟩, ⟨hij, hil, hjl⟩, hst⟩ := hc
          obtain ⟨a1, a2⟩ := locName_ok h hi
          obtain ⟨b1, b2⟩ := locName_ok h hj
          obtain ⟨c1, c2⟩ := locName_ok h hl
          exact ss_par3 g.toGX a1 b1 c1 hij hil hjl a2 b2 c2 (sa_map hE hst) hw
        · exact ss_stuck
      · exact ss_stuck
    · exact ss_stuck
/-- what an assignment's value may be where the target is no name -/
theorem noswap (hc : isCompE e = false) : swapsWithSole [tg] e pos.line X.env = pure false := by
  cases e <;> first
    | rfl
    | cases hc
theorem nostores {env : Env} (h1 : isTupE tg = false) (h2 : ∀ ts p, tg ≠ .List ts p) : swappedStores [tg] e env = pure none := by
  cases tg <;> first
    | rfl
    | exact absurd rfl (h2 _ _)
    | cases h1
theorem nostores2 {env : Env} (h1 : isTupE e = false) : swappedStores [tg] e env = pure none := by
  cases tg <;> cases e <;> first
    | rfl
    | cases h1

theorem tS_stuck {g : Gv} {D : Ends} {σ : St} {H : Hp} (h : tS G W (sAsg g eStuck) D σ H) : False := by
  obtain ⟨_, _, _, _, _, _, _, q, _⟩ := h
  cases q
theorem setLc_ok (h : CtOk G X c) (g : GY Γ X G W C k) {E0 : Ct → Expr → Ev} {T0 : Ct → Expr → Tv} (hE0 : OkE Γ G C k E0) (hT0 : OkT Γ G C k T0) {EL : Ct → Expr → Ev} (hL : OkE Γ G calls0 0 EL) (hb : X.env.blockKind = .function) {i : Nat} {y : Str} {py lp : Pos} {gs : List Comprehension} {scope : Scope} (hi : tgName c y = some i) :
    SS X G W (.Assign [.Name y py] (.ListComp elt gs scope lp) pos) (sAsg (gOne i) (cE Γ C E0 T0 EL c (.ListComp elt gs scope lp))) := by
  obtain ⟨q1, q2, q3⟩ := tgName_ok h hi
  have he := cE_ok hE0 hT0 hL X W c (.ListComp elt gs scope lp) h g
  by_cases hsw : (X.env.blockKind == .function && X.env.kindOf y == some .local && py.line == lp.line && !(scope.names.any fun (n, k) => n == y && (k == .local || k == .cell))) = true
  · have hs : swapsWith (.ListComp elt gs scope lp) (some (.Name y py)) pos.line X.env = pure true := by
      show (pure (X.env.blockKind == .function && X.env.kindOf y == some .local && py.line == lp.line && !(scope.names.any fun (n, k) => n == y && (k == .local || k == .cell))) : Sem Bool) = pure true
      rw [hsw]
    simp only [Bool.and_eq_true, beq_iff_eq] at hsw
    have hyl : X.env.scope.names.lookup y = some .local := hsw.1.1.2
    have stuck : SS X G W (.Assign [.Name y py] (.ListComp elt gs scope lp) pos) (sAsg (gOne i) eStuck) := ⟨fun _ _ _ _ _ _ hh => (tS_stuck hh).elim⟩
    show SS X G W _ (sAsg (gOne i) (cLC Γ c E0 T0 elt gs scope))
    unfold cLC
    split
    case h_2 => exact stuck
    rename_i gg
    split
    case isFalse => exact stuck
    rename_i h0
    obtain ⟨tg, it, ifs, n⟩ := gg
    obtain rfl : n = 0 := h0
    · simp only
      unfold cComp
      simp only
      split
      · rename_i hbb
        rw [Bool.and_eq_true] at hbb
        obtain ⟨hbb, hn⟩ := hbb
        have hn : isSetE it = false := by simpa using hn
        split
        · rename_i t fc ht hf
          split
          · rename_i hsl
            have ok := blkOk_by hbb
            rw [← h.hN, ← h.hs] at ok
            rw [← h.hN] at hsl ⊢
            refine PSimp (ps_setLc (X := X) (wi := tM G W (relI G) (cIter Γ c (E0 c) tg it)) (g := t.g X.K) (tt := tT G W0 fc) (te := tE G W0 (E0 ⟨X.N, relS scope c.sc, fun x => scope.names.lookup x == some .cell, false⟩ elt)) g.calm g.nd q1 hyl hs (iter_ok h g fun e => hE0 X W c e h g) ok (fun s H Ca cl fp => ?_) (fun s H Ca cl fp => ?_) (fun s H Ca cl fp => ?_) (folded_ok hn)) fun D σ H hh => ?_
            · refine tg_ok (c := ⟨c.N, relS scope c.sc, fun x => scope.names.lookup x == some .cell, false⟩) (blk_ct h) (blk_gy g).toGX ?_
              exact ht
            · exact ifs_ok (fun e => hT0 _ W0 _ e (blk_ct h) (blk_gy g)) hf
            · rw [h.hN]
              exact hE0 _ W0 _ elt (blk_ct h) (blk_gy g)
            · refine comp_red (own := (ownOf X.N scope).map (·.2)) g.toGX (fun j hj => List.contains_iff_mem.mp (List.all_eq_true.mp hsl j hj)) ?_
              refine (tS.bind hh).imp fun x H1 ⟨m, F, ρ, S, d, s, hρ, hx, hr⟩ => ?_
              obtain ⟨r, q, hr⟩ := hr
              cases q
              exact hr m F H1 _ .refl s (hρ.set i hx)
          · exact stuck
        · exact stuck
      · exact stuck
  · have hs : swapsWith (.ListComp elt gs scope lp) (some (.Name y py)) pos.line X.env = pure false := by
      show (pure (X.env.blockKind == .function && X.env.kindOf y == some .local && py.line == lp.line && !(scope.names.any fun (n, k) => n == y && (k == .local || k == .cell))) : Sem Bool) = pure false
      rw [Bool.eq_false_iff.mpr hsw]
    exact ss_asg gOne_plain he (sgv_one g.nd q1 q2 q3) hs rfl rfl
end
end MP

/-! MPT: statements and functions are as their image. -/
namespace MP
open PySem PySem.Spec PyProof.Rows L2
structure GZ (Γ : Pg) (X : Cx) (G : GW) (W : WX) (C : Calls) (k : Nat) : Prop extends GY Γ X G W C k where
  hp : PassesOwn (model X.prog X.w) X.A X.env X.xe
  bk : X.env.blockKind = .function
section
variable {Γ : Pg} {X : Cx} {G : GW} {W : WX} {C : Calls} {k : Nat} {c : Ct} {a b e o tg it elt : Expr} {es ifs : List Expr} {pos apos : Pos} {x m : Str} {E : Expr → Ev} {T : Expr → Tv} {st : Stmt} {sl : List Stmt}
theorem asg_ok (h : CtOk G X c) (g : GZ Γ X G W C k) {E0 : Ct → Expr → Ev} {T0 : Ct → Expr → Tv} (hE0 : OkE Γ G C k E0) (hT0 : OkT Γ G C k T0) {EL : Ct → Expr → Ev} (hL : OkE Γ G calls0 0 EL) : SS X G W (.Assign [tg] e pos) (cAsg Γ c (cE Γ C E0 T0 EL c) tg e) := by
  have hE : ∀ e, SE X G W e (cE Γ C E0 T0 EL c e) := fun e => cE_ok hE0 hT0 hL X W c e h g.toGY
  unfold cAsg
  split
  · exact ss_stuck
  · exact ss_stuck
  · rename_i elt gs scope lp
    split
    · rename_i x p
      split
      · rename_i i hi
        exact setLc_ok h g.toGY hE0 hT0 hL g.bk hi
      · exact ss_stuck
    · rename_i hne
      refine asgG_ok h g.toGY hE ?_ (nostores2 rfl)
      cases tg <;> first
        | rfl
        | exact absurd rfl (hne _ _)
  · rename_i vs k2 p2
    split
    · exact tupA_ok h g.toGY hE g.bk
    · exact ss_stuck
    · rename_i h1 h2
      refine asgG_ok h g.toGY hE rfl (nostores ?_ ?_)
      · cases tg <;> first
          | rfl
          | exact absurd rfl (h1 _ _ _)
      · intro ts p z
        exact h2 _ _ z
  · rename_i n1 n2 n3 n4
    split
    · exact ss_stuck
    · rename_i h2
      refine asgG_ok h g.toGY hE (noswap ?_) (nostores2 ?_)
      · cases e <;> first
          | rfl
          | exact absurd rfl (n1 _ _ _ _)
          | exact absurd rfl (n2 _ _ _ _ _)
          | exact absurd rfl (n3 _ _ _ _)
      · cases e <;> first
          | rfl
          | exact absurd rfl (n4 _ _ _)
theorem sts_ok {f : Stmt → Sv} (h : ∀ st, SS X G W st (f st)) : ∀ {sl : List Stmt}, SSs X G W sl (sts f sl)
  | [] => sss_nil
  | [s] => sss_one (h s)
  | s :: t :: r => sss_cons (h s) (sts_ok h (sl := t :: r))
theorem cS_ok (h : CtOk G X c) (g : GZ Γ X G W C k) {E0 : Ct → Expr → Ev} {T0 : Ct → Expr → Tv} (hE0 : OkE Γ G C k E0) (hT0 : OkT Γ G C k T0) {EL : Ct → Expr → Ev} (hL : OkE Γ G calls0 0 EL) {B : List Stmt → Sv} (hB : ∀ sl, SSs X G W sl (B sl)) : SS X G W st (cS Γ C c (cE Γ C E0 T0 EL c) (cT Γ C E0 T0 c) B st) := by
  have hE : ∀ e, SE X G W e (cE Γ C E0 T0 EL c e) := fun e => cE_ok hE0 hT0 hL X W c e h g.toGY
  have hT : ∀ e, ST X G W e (cT Γ C E0 T0 c e) := fun e => cT_ok hE0 hT0 X W c e h g.toGY
  unfold cS
  split
  · exact ss_doc
  · split
    · exact ss_stuck
    · rename_i e _ _ hc
      refine ss_drop (hE _) ?_
      cases e <;> first
        | rfl
        | exact absurd rfl hc
  · exact ss_ret (hE _)
  · exact ss_retN
  · exact ss_if (hT _) (hB _) (hB _)
  · exact ss_while g.hp (hT _) (hB _)
  · split
    · exact ss_stuck
    · rename_i hn
      have hn := Bool.eq_false_iff.mpr hn
      split
      · rename_i t ht
        exact ss_for g.toGX g.hp (iter_ok h g.toGY hE) (tg_ok h g.toGX ht) (hB _) (folded_ok hn)
      · exact ss_stuck
  · exact asg_ok h g hE0 hT0 hL
  · exact ss_pass
  · exact ss_break
  · exact ss_continue
  · exact ss_stuck
theorem compS_ok (h : CtOk G X c) (g : GZ Γ X G W C k) : ∀ (n : Nat) (st : Stmt), SS X G W st (compS Γ C c n st)
  | 0, _ => ss_stuck
  | n + 1, st => cS_ok (E0 := (comp Γ C 29).1) (T0 := (comp Γ C 29).2) (EL := (comp Γ calls0 29).1) h g (comp_ok 29).1 (comp_ok 29).2 (comp_ok 29).1 fun sl => sts_ok (compS_ok h g n)
theorem compB_ok (h : CtOk G X c) (g : GZ Γ X G W C k) {b : List Stmt} : SSs X G W b (compB Γ C c b) := sts_ok (compS_ok h g 20)
end

/-! ### functions -/
/-- what the making of lambdas asks of a def -/
def LamF (G : GW) (cdv : Value) (qual : Str) : Prop := ∃ c P, cdv = .ref c ∧ (c, P) ∈ G.C ∧ (P, qual ++ ".<locals>." ++ "<lambda>") ∈ G.T ∧ ∀ p ∈ G.T, p.1 = P → p.2 = qual ++ ".<locals>." ++ "<lambda>"
/-- what is known of a def of the text -/
structure DefF (Γ : Pg) (G : GW) (i : Nat) (f : Fd) (b : Calls → Sv) : Prop where
  ex : ∃ (name qual : Str) (params : Arguments) (body : List Stmt) (scope : Scope) (dV kV doc pm cdv ct oc : Value) (an od : Option Addr) (osl : Array (Option Value)) (lam : Bool),
    G.K.lookup (G.fnA i) = some ⟨oc, od, .func (PySem.W.fnOf name qual params body scope dV kV doc pm an cdv ct), osl⟩ ∧ PySem.W.codeIn G.K cdv qual = true ∧ FnScope f.N f.ps scope ∧
    (∀ us : List Value, us.length = f.ps.length → bindArgs (PySem.W.fnOf name qual params body scope dV kV doc pm an cdv ct) ⟨us, []⟩ = pure (f.ps.zip us)) ∧ (∀ C, compB Γ C ⟨f.N, scope, fnT, lam⟩ body = b C) ∧ (lam = true → LamF G cdv qual)
theorem start_rel {G : GW} {m : List Addr} {F : Hp} {ds : List D} {vs : List V} {N : List Str} (h : relDs G m F ds vs) : relE G m F (ds.map some ++ List.replicate (N.length - ds.length) none) (L2.start N vs) := by
  have hl := h.length
  refine ⟨by unfold L2.start; simp [hl], fun i d e => ?_⟩
  by_cases hi : i < ds.length
  · rw [List.getElem?_append_left (by simpa using hi)] at e
    rw [List.getElem?_map] at e
    cases e2 : ds[i]? with
    | none => rw [e2] at e; cases e
    | some d' =>
      rw [e2] at e; cases e
      obtain ⟨v, h1, h2⟩ := h.get e2
      refine ⟨v, ?_, h2⟩
      unfold L2.start
      rw [List.getElem?_append_left (by simp; omega), List.getElem?_map, h1]; rfl
  · rw [List.getElem?_append_right (by simp; omega)] at e
    rw [List.getElem?_replicate] at e
    split at e <;> cases e
theorem runF_end {Γ : Pg} {G : GW} {f : Fd} {b : Calls → Sv} {C : Calls} {ds : List D} {m : List Addr} {F : Hp} {S : Store} {H : Hp} {E : XK} {Q : VK} (s : Sim G m F S H)
    (h : Run G (fun c d _ H' => E c d H') [] (relD G) (runF f b C ds) m F S Q) : RunS G (fun c d _ H' => E c d H') (b C (ds.map some ++ List.replicate (f.N.length - ds.length) none) S) m F { nx := fun _ H' => Q .non H', rt := Q } := by
  obtain ⟨r, q, h⟩ := h
  unfold runF at q
  split at q
  · cases eb : b C (ds.map some ++ List.replicate (f.N.length - ds.length) none) S with
    | none => rw [eb] at q; cases q
    | some rs =>
      rw [eb] at q
      refine ⟨rs, rfl, ?_⟩
      cases rs with
      | rt d S' =>
        cases q
        intro m' F' H' v e s' hv
        obtain ⟨m2, q1, q2, q3⟩ := dropR_ok s e s' hv
        exact h m2 F' H' v q1 q2 q3
      | nx ρ S' =>
        cases q
        intro m' F' H' σ' e s' _
        obtain ⟨m2, q1, q2, q3⟩ := dropR_ok (d := .non) (v := .non) s e s' rfl
        exact h m2 F' H' .non q1 q2 q3
      | ex x ρ S' =>
        cases q
        exact fun m' F' H' σ' d ws e s' _ hd h1 h2 => h m' F' H' d ws e s' hd h1 h2
      | bk _ _ => cases q
      | ct _ _ => cases q
  · cases q
/-- a def, one level up -/
theorem def_step {Γ : Pg} {bs : List (Calls → Sv)} {G : GW} {P : Program} {w : World} {mg : Str → Option Value} {base : Heap} (wf : WF Γ G mg) {k i : Nat} {f : Fd} {b : Calls → Sv} (hf : Γ.fns[i]? = some f) (hb : bs[i]? = some b)
    (TB : ∀ p ∈ G.C, LamX.TabB base mg p.1 p.2) (ih : FnsOk Γ G P w mg base (callsAt Γ bs k).fn (k + 2)) (ihp : (∀ c ds S, (callsAt Γ bs k).new c ds S = none) ∨ ∃ j fn, j + 1 ≤ k + 2 ∧ (callsAt Γ bs k).new = runMk Γ fn ∧ FnsOk Γ G P w mg base fn j)
    {name qual : Str} {params : Arguments} {body : List Stmt} {scope : Scope} {dV kV doc pm cdv ct oc : Value} {an od : Option Addr} {osl : Array (Option Value)} {lam : Bool}
    (lk : G.K.lookup (G.fnA i) = some ⟨oc, od, .func (PySem.W.fnOf name qual params body scope dV kV doc pm an cdv ct), osl⟩) (hcd : PySem.W.codeIn G.K cdv qual = true) (S : FnScope f.N f.ps scope)
    (hc : ∀ C, compB Γ C ⟨f.N, scope, fnT, lam⟩ body = b C) (lm : lam = true → LamF G cdv qual) :
    FnOk P w G.K mg base (L2.CX P w) (k + 2 + 3 + 1) (G.fnA i) (PySem.W.fnOf name qual params body scope dV kV doc pm an cdv ct) f.ps (spF G ((callsAt Γ bs (k + 1)).fn i) f.ps.length) := by
  refine fn_of (CX := L2.CX P w) lk hcd S (fun vs H Q E hsp => hsp.1) (fun A outer s H vs Q E hr hsp => ?_)
  obtain ⟨hl, m, F, S1, ds, s1, h1, hrun⟩ := hsp
  have hrun' : Run G (fun c d _ H' => E c d H') [] (relD G) (runF f b (callsAt Γ bs k) ds) m F S1 Q := by
    have : (callsAt Γ bs (k + 1)).fn i ds = runF f b (callsAt Γ bs k) ds := by
      show (match Γ.fns[i]?, bs[i]? with
        | some f, some b => runF f b (callsAt Γ bs k) ds
        | _, _ => .stuck) = _
      rw [hf, hb]
    rw [this] at hrun; exact hrun
  have hend := runF_end (Γ := Γ) s1 hrun'
  rw [← hc] at hend
  refine ⟨tS G (fun c d _ H' => E c d H') (compB Γ (callsAt Γ bs k) ⟨f.N, scope, fnT, lam⟩ body), compB_ok (k := k + 2) ⟨rfl, rfl, fun _ _ => rfl, fun hl => ?_⟩ ⟨⟨⟨rfl, rfl, S.nd, hr, takes_of rfl rfl rfl rfl⟩, wf, ⟨ih, ihp⟩⟩, passes_of rfl, ?_⟩, m, F, _, S1, s1, start_rel h1, hend⟩
  · obtain ⟨c, P', e1, e2, e3, e4⟩ := lm hl
    exact ⟨⟨c, P', TB _ e2, e1, e3, e4⟩, hr.mono (by omega)⟩
  · show (if scope.kind.isAnnotationScope then ScopeKind.function else scope.kind) = .function
    rw [S.kind]; rfl
theorem binds_of {K : PySem.W.Frag} {fd : FuncData} {ps : List Str} (h : ∀ us : List Value, us.length = ps.length → bindArgs fd ⟨us, []⟩ = pure (ps.zip us)) : Binds K fd ps [] := .all h
/-- all the functions, at every level -/
theorem fns_ok {Γ : Pg} {bs : List (Calls → Sv)} {G : GW} {P : Program} {w : World} {mg : Str → Option Value} {base : Heap} (wf : WF Γ G mg) (hd : ∀ (i : Nat) f, Γ.fns[i]? = some f → ∃ b, bs[i]? = some b ∧ DefF Γ G i f b) (TB : ∀ p ∈ G.C, LamX.TabB base mg p.1 p.2) :
    ∀ k, FnsOk Γ G P w mg base (callsAt Γ bs k).fn (k + 2) ∧ ((∀ c ds S, (callsAt Γ bs k).new c ds S = none) ∨ ∃ j fn, j + 1 ≤ k + 2 ∧ (callsAt Γ bs k).new = runMk Γ fn ∧ FnsOk Γ G P w mg base fn j)
  | 0 => by
    refine ⟨fun i f hf => ?_, .inl fun _ _ _ => rfl⟩
    obtain ⟨b, hb, ⟨name, qual, params, body, scope, dV, kV, doc, pm, cdv, ct, oc, an, od, osl, lam, lk, hcd, S, bi, hc, lm⟩⟩ := hd i f hf
    refine ⟨_, ⟨fun vs H Q E hsp => hsp.1, fun A outer s H args us vs Q E hr e0 hb r hsp => ?_⟩, binds_of bi⟩
    obtain ⟨_, m, F, S, ds, s1, h1, hrun⟩ := hsp
    exact hrun.stuck.elim
  | k + 1 => by
    obtain ⟨ih, ihp⟩ := fns_ok (P := P) (w := w) (base := base) wf hd TB k
    refine ⟨fun i f hf => ?_, .inr ⟨k + 2, (callsAt Γ bs k).fn, Nat.le_refl _, rfl, ih⟩⟩
    obtain ⟨b, hb, ⟨name, qual, params, body, scope, dV, kV, doc, pm, cdv, ct, oc, an, od, osl, lam, lk, hcd, S, bi, hc, lm⟩⟩ := hd i f hf
    exact ⟨_, def_step wf hf hb TB ih ihp lk hcd S hc lm, binds_of bi⟩
end MP

/-! MPU: the tables' facts by one Bool; the end of a law. -/
namespace MP
open PySem PySem.Spec PyProof.Rows L2

/-- the world by names -/
def lamQ (p : Str × Option Str) : Str := (match p.2 with
  | none => p.1
  | some m => p.1 ++ "." ++ m) ++ ".<locals>." ++ "<lambda>"
def gwOf (Γ : Pg) (fk : List (Str × Option Str)) (cn : List Str) (tf : List (Str × Option Str)) (K : PySem.W.Frag) : GW where
  K := K
  T := tf.map fun p => ((He.cT K p).2, lamQ p)
  C := tf.map (He.cT K)
  fnA := fun i => match fk[i]? with
    | some p => He.fAd K p
    | none => 0
  clA := fun c => match cn[c]? with
    | some x => He.ga K x
    | none => 0
  fields := Γ.fields
def glB (fk : List (Str × Option Str)) (cn : List Str) (K : PySem.W.Frag) (p : Str × GB) : Bool := match p.2 with
  | .fn i => decide (fk[i]? = some (p.1, none)) && ((He.Fa.glo p.1).ok K && (He.Fa.keep p.1).ok K)
  | .cls c => decide (cn[c]? = some p.1) && (He.Fa.glo p.1).ok K
  | .int i => (He.Fa.int p.1 i).ok K
  | .free => (He.Fa.free p.1).ok K
def clB (fk : List (Str × Option Str)) (K : PySem.W.Frag) (cd : Cd) (x : Str) : Bool :=
  (He.Fa.cls x).ok K && ((cd.fields.all fun f => (He.Fa.noat x f).ok K) && ((match cd.init with
    | some i => decide (fk[i]? = some (x, some ("__init__" : Str))) && (He.Fa.mkr x).ok K
    | none => true) && ((cd.meths.all fun p => decide (fk[p.2]? = some (x, some p.1)) && ((He.Fa.meth x p.1).ok K && decide (p.1 ∉ cd.fields))) &&
    (He.eqO (PySem.W.findIn K (.ref (He.ga K x)) "__class__") (some (some (.builtin "object.__class__"))) && (decide (PySem.W.mroIn K (He.ga K x) (.type "object") = some true) &&
      (bTypes.all fun T => decide (PySem.W.kitOne K (.ref (He.ga K x)) (.type T) = some false) && decide (PySem.W.kitOne K (.type T) (.ref (He.ga K x)) = some false)))))))
def prB (K : PySem.W.Frag) (c c' : Nat) (x x' : Str) : Bool :=
  decide (PySem.W.kitOne K (.ref (He.ga K x)) (.ref (He.ga K x')) = some (c == c')) && (c == c' || decide (PySem.W.subIn K (.ref (He.ga K x')) (.ref (He.ga K x)) = some false))
def clsB (Γ : Pg) (fk : List (Str × Option Str)) (cn : List Str) (K : PySem.W.Frag) : Bool :=
  decide (cn.length = Γ.cls.length) && ((Γ.cls.zip cn).all fun p => clB fk K p.1 p.2) && (cn.zipIdx.all fun p => cn.zipIdx.all fun q => prB K p.2 q.2 p.1 q.1)
def wfB (Γ : Pg) (fk : List (Str × Option Str)) (cn : List Str) (K : PySem.W.Frag) : Bool :=
  (Γ.gl.all fun p => glB fk cn K p) && (clsB Γ fk cn K && (He.eqO (PySem.W.specialIn K (.builtin "object.__class__") "__get__") (some (some (.builtin "getset_descriptor.__get__"))) && decide (PySem.W.takesIn K (.builtin "object.__class__") = some true)))
section
variable {Γ : Pg} {fk tf : List (Str × Option Str)} {cn : List Str} {K : PySem.W.Frag} {h : Heap} {mg : Str → Option Value}
theorem fnA_eq {i : Nat} {p : Str × Option Str} (e : fk[i]? = some p) : (gwOf Γ fk cn tf K).fnA i = He.fAd K p := by
  show (match fk[i]? with
    | some p => He.fAd K p
    | none => 0) = _
  rw [e]
theorem clA_eq {c : Nat} {x : Str} (e : cn[c]? = some x) : (gwOf Γ fk cn tf K).clA c = He.ga K x := by
  show (match cn[c]? with
    | some x => He.ga K x
    | none => 0) = _
  rw [e]
theorem gl_at (hg : Γ.gl.all (fun p => glB fk cn K p) = true) {x : Str} {g : GB} (e : Γ.gl.lookup x = some g) : glB fk cn K (x, g) = true := List.all_eq_true.mp hg _ (PySem.mem_of_lookup e)
theorem cls_at (hc : clsB Γ fk cn K = true) {c : Nat} {cd : Cd} (e : Γ.cls[c]? = some cd) : ∃ x, cn[c]? = some x ∧ clB fk K cd x = true := by
  obtain ⟨h1, _⟩ := He.ba hc
  obtain ⟨h1, h2⟩ := He.ba h1
  have hl : cn.length = Γ.cls.length := of_decide_eq_true h1
  have hlt : c < cn.length := by rw [hl]; exact (List.getElem?_eq_some_iff.mp e).1
  refine ⟨cn[c], List.getElem?_eq_getElem hlt, ?_⟩
  have hm : (cd, cn[c]) ∈ Γ.cls.zip cn := by
    refine List.mem_of_getElem? (i := c) ?_
    rw [List.getElem?_zip_eq_some]
    exact ⟨e, List.getElem?_eq_getElem hlt⟩
  exact List.all_eq_true.mp h2 _ hm
theorem pr_at (hc : clsB Γ fk cn K = true) {c c' : Nat} {x x' : Str} (e : cn[c]? = some x) (e' : cn[c']? = some x') : prB K c c' x x' = true := by
  obtain ⟨_, h3⟩ := He.ba hc
  have mem : ∀ {c : Nat} {x : Str}, cn[c]? = some x → (x, c) ∈ cn.zipIdx := fun {c x} e => List.mem_of_getElem? (i := c) (by simp [List.getElem?_zipIdx, e])
  exact List.all_eq_true.mp (List.all_eq_true.mp h3 _ (mem e)) _ (mem e')
theorem wf_of (X : K.In h) (G : h.Ns mainGlobals mg) (w : wfB Γ fk cn K = true) : WF Γ (gwOf Γ fk cn tf K) mg := by
  obtain ⟨w1, w⟩ := He.ba w
  obtain ⟨w2, w⟩ := He.ba w
  obtain ⟨w3, w4⟩ := He.ba w
  refine ⟨rfl, fun x i e => ?_, fun x c e => ?_, fun x i e => ?_, fun x e => ?_, fun c cd e => ?_, fun c f hf => ?_, fun c cd i e hi => ?_, fun c cd e => ?_, ⟨He.eqO_ok w3, of_decide_eq_true w4⟩, fun c c' cd cd' e e' => ?_, fun c c' cd cd' e e' hne => ?_, fun c cd T e hT => ?_, fun c cd mt i e hm => ?_⟩
  · obtain ⟨g1, g2⟩ := He.ba (gl_at w1 e)
    obtain ⟨g2, g3⟩ := He.ba g2
    have e1 : fk[i]? = some (x, none) := of_decide_eq_true g1
    rw [fnA_eq e1]
    exact ⟨He.glo_ok X G g2, He.keep_ok g3⟩
  · obtain ⟨g1, g2⟩ := He.ba (gl_at w1 e)
    rw [clA_eq (of_decide_eq_true g1)]
    exact He.glo_ok X G g2
  · exact He.int_ok X G (gl_at w1 e)
  · exact He.free_ok X G (gl_at w1 e)
  · obtain ⟨x, e1, hc⟩ := cls_at w2 e
    rw [clA_eq e1]
    exact He.cls_ok (He.ba hc).1
  · have hcd : ∃ cd, Γ.cls[c]? = some cd ∧ f ∈ cd.fields := by
      unfold Pg.fields at hf
      split at hf
      · rename_i cd hcd; exact ⟨cd, hcd, hf⟩
      · cases hf
    obtain ⟨cd, e, hf⟩ := hcd
    obtain ⟨x, e1, hc⟩ := cls_at w2 e
    rw [clA_eq e1]
    obtain ⟨_, hc⟩ := He.ba hc
    exact He.noat_ok (List.all_eq_true.mp (He.ba hc).1 f hf)
  · obtain ⟨x, e1, hc⟩ := cls_at w2 e
    obtain ⟨_, hc⟩ := He.ba hc
    obtain ⟨_, hc⟩ := He.ba hc
    obtain ⟨hc, _⟩ := He.ba hc
    rw [hi] at hc
    obtain ⟨c1, c2⟩ := He.ba hc
    rw [clA_eq e1, fnA_eq (of_decide_eq_true c1)]
    exact He.mkr_ok c2
  · obtain ⟨x, e1, hc⟩ := cls_at w2 e
    obtain ⟨_, hc⟩ := He.ba hc
    obtain ⟨_, hc⟩ := He.ba hc
    obtain ⟨_, hc⟩ := He.ba hc
    obtain ⟨_, hc⟩ := He.ba hc
    obtain ⟨c1, hc⟩ := He.ba hc
    obtain ⟨c2, _⟩ := He.ba hc
    rw [clA_eq e1]
    exact ⟨He.eqO_ok c1, of_decide_eq_true c2⟩
  · obtain ⟨x, e1, _⟩ := cls_at w2 e
    obtain ⟨x', e1', _⟩ := cls_at w2 e'
    rw [clA_eq e1, clA_eq e1']
    exact of_decide_eq_true (He.ba (pr_at w2 e1 e1')).1
  · obtain ⟨x, e1, _⟩ := cls_at w2 e
    obtain ⟨x', e1', _⟩ := cls_at w2 e'
    rw [clA_eq e1, clA_eq e1']
    have := (He.ba (pr_at w2 e1 e1')).2
    rcases Bool.or_eq_true_iff.mp this with z | z
    · exact absurd (beq_iff_eq.mp z) hne
    · exact of_decide_eq_true z
  · obtain ⟨x, e1, hc⟩ := cls_at w2 e
    obtain ⟨_, hc⟩ := He.ba hc
    obtain ⟨_, hc⟩ := He.ba hc
    obtain ⟨_, hc⟩ := He.ba hc
    obtain ⟨_, hc⟩ := He.ba hc
    obtain ⟨_, hc⟩ := He.ba hc
    obtain ⟨_, hc⟩ := He.ba hc
    obtain ⟨c1, c2⟩ := He.ba (List.all_eq_true.mp hc T hT)
    rw [clA_eq e1]
    exact ⟨of_decide_eq_true c1, of_decide_eq_true c2⟩
  · obtain ⟨x, e1, hc⟩ := cls_at w2 e
    obtain ⟨_, hc⟩ := He.ba hc
    obtain ⟨_, hc⟩ := He.ba hc
    obtain ⟨_, hc⟩ := He.ba hc
    obtain ⟨hc, _⟩ := He.ba hc
    obtain ⟨c1, c2⟩ := He.ba (List.all_eq_true.mp hc _ (PySem.mem_of_lookup hm))
    obtain ⟨c2, c3⟩ := He.ba c2
    rw [clA_eq e1, fnA_eq (of_decide_eq_true c1)]
    exact ⟨He.meth_ok c2, of_decide_eq_true c3⟩
/-- the tables lie apart -/
def tabU (K : PySem.W.Frag) (tf : List (Str × Option Str)) : Bool := tf.all fun p => tf.all fun q => decide ((He.cT K p).2 = (He.cT K q).2 → lamQ p = lamQ q)
theorem lamF_of {at_ : Str × Option Str} {name qual : Str} {params : Arguments} {body : List Stmt} {scope : Scope} {kV doc pm cdv ct oc : Value} {an od : Option Addr} {osl : Array (Option Value)}
    (lk : K.lookup (He.fAd K at_) = some ⟨oc, od, .func (PySem.W.fnOf name qual params body scope .none kV doc pm an cdv ct), osl⟩) (hcd : PySem.W.codeIn K cdv qual = true) (l1 : at_ ∈ tf) (l2 : lamQ at_ = qual ++ ".<locals>." ++ "<lambda>") (l3 : tabU K tf = true) : LamF (gwOf Γ fk cn tf K) cdv qual := by
  obtain ⟨c, rfl⟩ : ∃ c, cdv = .ref c := by
    unfold PySem.W.codeIn at hcd
    cases cdv with
    | ref c => exact ⟨c, rfl⟩
    | _ => simp at hcd
  have e : He.codeOf K at_ = c := He.codeOf_eq lk rfl
  refine ⟨c, (He.cT K at_).2, rfl, List.mem_map.mpr ⟨at_, l1, Prod.ext e rfl⟩, List.mem_map.mpr ⟨at_, l1, by rw [l2]⟩, fun p hp e2 => ?_⟩
  obtain ⟨q, hq, rfl⟩ := List.mem_map.mp hp
  rw [← l2]
  exact of_decide_eq_true (List.all_eq_true.mp (List.all_eq_true.mp l3 q hq) at_ l1) e2
/-- a def of the row, by its datum -/
theorem defF_of {d : He.DefD} {i : Nat} {f : Fd} {b : Calls → Sv} (e : fk[i]? = some d.at_) (F : ∃ fd, FunD K d.name d.qual d.params d.body d.scope (d.dvs K) (d.kws K) (He.fAd K d.at_) fd) (hd : d.dfl = []) (hk : d.kwd = [])
    (S : FnScope f.N f.ps d.scope) (hb : ∀ (kV doc pm : Value) (an : Option Addr) (cdv ct : Value) (us : List Value), us.length = f.ps.length → bindArgs (PySem.W.fnOf d.name d.qual d.params d.body d.scope .none kV doc pm an cdv ct) ⟨us, []⟩ = pure (f.ps.zip us))
    {lam : Bool} (hc : ∀ C, compB Γ C ⟨f.N, d.scope, fnT, lam⟩ d.body = b C) (lm : lam = true → d.at_ ∈ tf ∧ lamQ d.at_ = d.qual ++ ".<locals>." ++ "<lambda>" ∧ tabU K tf = true) : DefF Γ (gwOf Γ fk cn tf K) i f b := by
  obtain ⟨fd, F⟩ := F
  have F' : FunD K d.name d.qual d.params d.body d.scope [] [] (He.fAd K d.at_) fd := by
    have e1 : d.dvs K = [] := by unfold He.DefD.dvs; rw [hd]; rfl
    have e2 : d.kws K = [] := by unfold He.DefD.kws; rw [hk]; rfl
    rw [e1, e2] at F; exact F
  obtain ⟨oc, od, dV, kV, doc, pm, an, cdv, ct, osl, rfl, lk, hcd, hD, _⟩ := F'.ex
  have hD : dV = .none := by
    rcases hD with ⟨e, _⟩ | ⟨e, _⟩
    · first | exact e | (rename_i q; exact q)
    · exact absurd rfl e
  subst hD
  refine ⟨⟨d.name, d.qual, d.params, d.body, d.scope, .none, kV, doc, pm, cdv, ct, oc, an, od, osl, lam, ?_, hcd, S, hb kV doc pm an cdv ct, hc, fun hl => ?_⟩⟩
  · rw [fnA_eq e]
    exact lk
  · obtain ⟨l1, l2, l3⟩ := lm hl
    exact lamF_of lk hcd l1 l2 l3
end
theorem noexc {P : Program} {w : World} (H : Hp) (s : Shared) (e : Value) (s' : Shared) (h : L2.CX P w [] H s (fun _ _ _ => False) e s') : False := by
  obtain ⟨_, _, _, _, _, _, _, _, _, _, _, _, z⟩ := h
  exact z
/-- the law's end: the interpreter's call of the law gives True -/
theorem walk_ofM {l : PySem.W.OpenLaw} {n k : Nat} {q : Program} {loose : List Str} {XP : (Str → Option Value) → Heap → Prop} {YP : World → Heap → Prop} {d : DefRec} {x : Str} {Γ : Pg} {bs : List (Calls → Sv)} {f : Fd} {iL : Nat}
    (hn : l.most = some n) (hn2 : n ≤ sizeLine) (hdf : d.params.defaults = []) (hr : Room (k + 6) callerA) (hf : Γ.fns[iL]? = some f) (hps : f.ps = [x])
    (F : ∀ (w : World) (mg : Str → Option Value) (fa : Addr) (h : Heap), YP w h → h.Ns mainGlobals mg → mg d.name = some (.ref fa) →
      ∃ G : GW, G.K.In h ∧ G.fnA iL = fa ∧ (∀ p ∈ G.T, ∃ c, (c, p.1) ∈ G.C) ∧ (∀ p ∈ G.C, h.get? p.2 = some { cls := .none, data := .fields #[] } ∧ G.K.lookup p.2 = none ∧ PySem.W.CodeHd h p.1 p.2) ∧
        (∀ base, G.K.In base → base.Ns mainGlobals mg → WF Γ G mg) ∧ ∀ i f, Γ.fns[i]? = some f → ∃ b, bs[i]? = some b ∧ DefF Γ G i f b)
    (hL : ∀ ns : List Int, ns.length ≤ n → (∀ z ∈ ns, Builtin.Int.intBits z ≤ 1048576) → ∃ S', (callsAt Γ bs (k + 1)).fn iL [.flst (ns.map .int)] [] = some (.ok (.bl true) S')) :
    PySem.W.WalkO q loose XP YP l.row.toRowW d [] (fun f vs => PySem.call f vs) := by
  refine LamX.walk_ofTsE (CX := fun w => L2.CX l.prog w) (x := x) (k := k + 6) hn hn2 hdf hr (fun w mg fa h Y hm hmg => ?_) fun w H s e s' z => noexc H s e s' z
  obtain ⟨GG, KX, rfl, hTC, hC, wf, hds⟩ := F w mg fa h Y hm hmg
  obtain ⟨b, hb, ⟨name, qual, params, body, scope, dV, kV, doc', pm', cdv, ct, oc, an, od, osl, lam, lk, hcd', S, bi, hc, lm⟩⟩ := hds iL f hf
  refine ⟨GG.K, KX, PySem.W.fnOf name qual params body scope dV kV doc' pm' an cdv ct, GG.C, spF GG ((callsAt Γ bs (k + 1)).fn iL) f.ps.length, fun p hp => (hC p hp).1, fun p hp => (hC p hp).2.1, fun p hp => (hC p hp).2.2, fun s u => ?_, fun H a ns hlen hbits hT hS => ?_, fun base hb1 hm TB => ?_⟩
  · have := bi [u] (by rw [hps]; rfl)
    rw [hps] at this
    exact .of_eq this
  · obtain ⟨S', e⟩ := hL ns hlen hbits
    have hT' : ∀ p ∈ GG.T, H p.1 = some (.tbl #[]) := fun p hp => by
      obtain ⟨c, hc⟩ := hTC p hp
      exact hT _ hc
    refine ⟨by rw [hps]; rfl, [], fun b => if b ∈ GG.T.map (·.1) then none else H b, [], [.flst (ns.map .int)], ⟨fun b o h => ?_, List.nodup_nil, rfl, fun _ z => (by cases z), fun _ _ _ z => (by simp at z), ⟨fun p hp => ?_, fun p hp => ⟨if_pos (List.mem_map.mpr ⟨p, hp, rfl⟩), by simp⟩⟩⟩, relDs.cons ⟨a, ns.map V.int, rfl, ?_, ?_⟩ relDs.nil, _, e, ?_⟩
    · have h : (if b ∈ GG.T.map (·.1) then none else H b) = some o := h
      split at h
      · cases h
      · exact h
    · exact ⟨#[], hT' p hp, trivial, fun pos cv hc => by cases hc⟩
    · have nt : ∀ (o : HO), H a = some o → (∀ ps, o ≠ .tbl ps) → (fun b => if b ∈ GG.T.map (·.1) then none else H b) a = some o := fun o ho hn => by
        have : a ∉ GG.T.map (·.1) := fun z => by
          obtain ⟨p, hp, e⟩ := List.mem_map.mp z
          have := hT' p hp
          rw [e, ho] at this
          exact hn _ (Option.some.inj this)
        exact (if_neg this).trans ho
      rcases hS with (h | ⟨o, h⟩) | h
      · exact .inl (.inl (nt _ h fun ps z => by cases z))
      · exact .inl (.inr ⟨o, nt _ h fun ps z => by cases z⟩)
      · exact .inr h
    · refine relDs.of_get (by simp) fun i d v h1 h2 => ?_
      rw [List.getElem?_map] at h1 h2
      cases e1 : ns[i]? with
      | none => rw [e1] at h1; cases h1
      | some z =>
        rw [e1] at h1 h2
        cases h1; cases h2
        rfl
    · exact fun m' F' H' v _ _ hv => hv
  · obtain ⟨ih, ihp⟩ := fns_ok (P := l.prog) (w := w) (base := base) (wf base hb1 hm) hds TB k
    have := def_step (P := l.prog) (w := w) (base := base) (wf base hb1 hm) hf hb TB ih ihp lk hcd' S hc lm
    rw [hps] at this ⊢
    exact this
/-- the world of the hook is as walk_ofM wants it -/
theorem tabs_of {fa : List He.Fa} {fn : List He.DefD} {tf : List He.Defn} {ex : PySem.W.Frag → Bool} {w : World} {h : Heap} {K : PySem.W.Frag} {Γ : Pg} {fk : List (Str × Option Str)} {cn : List Str} (KX : K.In h) (c : He.SaysX fa fn [] tf ex w h K) :
    (∀ p ∈ (gwOf Γ fk cn tf K).T, ∃ c, (c, p.1) ∈ (gwOf Γ fk cn tf K).C) ∧ ∀ p ∈ (gwOf Γ fk cn tf K).C, h.get? p.2 = some { cls := .none, data := .fields #[] } ∧ (gwOf Γ fk cn tf K).K.lookup p.2 = none ∧ PySem.W.CodeHd h p.1 p.2 := by
  refine ⟨fun p hp => ?_, fun p hp => ?_⟩
  · obtain ⟨q, hq, rfl⟩ := List.mem_map.mp hp
    exact ⟨(He.cT K q).1, List.mem_map.mpr ⟨q, hq, rfl⟩⟩
  · obtain ⟨q, hq, rfl⟩ := List.mem_map.mp hp
    exact ⟨c.empty q hq, c.out q hq, PySem.W.codeHd_of_K KX (c.hd q hq)⟩
end MP

/-! MPW: reasoning about the interpreter: it ends, and then Q. -/
namespace MP
open PySem PySem.Spec PyProof.Rows L2

def PM {α : Type} (x : M α) (S : Store) (Q : α → Store → Prop) : Prop := ∃ a S', x S = some (.ok a S') ∧ Q a S'
/-- no exception -/
def RS.calm : RS → Prop
  | .ex _ _ _ => False
  | _ => True
def PZ (f : Sv) (ρ : En) (S : Store) (Q : RS → Prop) : Prop := ∃ r, f ρ S = some r ∧ r.calm ∧ Q r
section
variable {α β : Type} {S : Store} {ρ : En}
theorem PM.imp {x : M α} {Q Q' : α → Store → Prop} (h : PM x S Q) (q : ∀ a S, Q a S → Q' a S) : PM x S Q' := let ⟨a, S', e, h⟩ := h; ⟨a, S', e, q _ _ h⟩
theorem PZ.imp {f : Sv} {Q Q' : RS → Prop} (h : PZ f ρ S Q) (q : ∀ r, Q r → Q' r) : PZ f ρ S Q' := let ⟨r, e, c, h⟩ := h; ⟨r, e, c, q _ h⟩
theorem PM_of {x : M α} {Q : α → Store → Prop} {a : α} {S' : Store} (e : x S = some (.ok a S')) : PM x S Q ↔ Q a S' := ⟨fun ⟨a', S2, e2, h⟩ => by rw [e] at e2; cases e2; exact h, fun h => ⟨a, S', e, h⟩⟩
theorem PM_ret {Q : α → Store → Prop} {a : α} : PM (M.ret a) S Q ↔ Q a S := PM_of rfl
theorem PM_some {Q : α → Store → Prop} {a : α} {S' : Store} : PM (fun S => some (.ok a S')) S Q ↔ Q a S' := PM_of rfl
theorem PM_stuck {Q : α → Store → Prop} : PM (M.stuck : M α) S Q ↔ False := ⟨fun ⟨_, _, e, _⟩ => (by cases e), fun h => False.elim h⟩
theorem PM_none {Q : α → Store → Prop} : PM (fun _ => none : M α) S Q ↔ False := ⟨fun ⟨_, _, e, _⟩ => (by cases e), fun h => False.elim h⟩
theorem PM_bind {x : M α} {f : α → M β} {Q : β → Store → Prop} : PM (M.bind x f) S Q ↔ PM x S fun a S' => PM (f a) S' Q := by
  constructor
  · rintro ⟨b, S', e, h⟩
    unfold M.bind at e
    cases ex : x S with
    | none => rw [ex] at e; cases e
    | some r =>
      rw [ex] at e
      cases r with
      | ok a S1 => exact ⟨a, S1, ex, b, S', e, h⟩
      | ex _ _ => cases e
  · rintro ⟨a, S1, ex, b, S', e, h⟩
    exact ⟨b, S', by unfold M.bind; rw [ex]; exact e, h⟩
theorem PM_guard {p : Prop} [Decidable p] {x : M α} {Q : α → Store → Prop} : PM (M.guard p x) S Q ↔ p ∧ PM x S Q := by
  unfold M.guard
  split
  · rename_i h; exact ⟨fun z => ⟨h, z⟩, fun z => z.2⟩
  · rename_i h; exact ⟨fun z => (PM_stuck.mp z).elim, fun z => absurd z.1 h⟩
theorem PM_if {p : Prop} [Decidable p] {x : M α} {Q : α → Store → Prop} : PM (fun S => if p then x S else none) S Q ↔ p ∧ PM x S Q := by
  unfold PM
  by_cases h : p
  · simp only [h, if_true, true_and]
  · simp only [h, if_false, false_and]
    exact ⟨fun ⟨_, _, e, _⟩ => (by cases e), fun z => False.elim z⟩
theorem PM_ite {p : Prop} [Decidable p] {x y : M α} {Q : α → Store → Prop} : PM (if p then x else y) S Q ↔ (p → PM x S Q) ∧ (¬ p → PM y S Q) := by
  by_cases h : p
  · simp [h]
  · simp [h]
theorem PM_optM {o : Option α} {Q : α → Store → Prop} : PM (optM o) S Q ↔ ∃ a, o = some a ∧ Q a S := by
  cases o with
  | none => exact ⟨fun z => (PM_stuck.mp z).elim, fun ⟨_, e, _⟩ => (by cases e)⟩
  | some a => exact ⟨fun z => ⟨a, rfl, PM_ret.mp z⟩, fun ⟨_, e, z⟩ => (by cases e; exact PM_ret.mpr z)⟩
/-! expressions -/
theorem PM_slot {i : Nat} {d : D} {Q : D → Store → Prop} (h : ρ[i]? = some (some d)) : PM (eSlot i ρ) S Q ↔ Q d S := by
  unfold eSlot; rw [h]; exact PM_ret
theorem PM_slot' {i : Nat} {Q : D → Store → Prop} : PM (eSlot i ρ) S Q ↔ ∃ d, ρ[i]? = some (some d) ∧ Q d S := by
  unfold eSlot
  constructor
  · intro h
    split at h
    · rename_i d hd; exact ⟨d, hd, PM_ret.mp h⟩
    · exact (PM_stuck.mp h).elim
  · rintro ⟨d, hd, h⟩
    rw [hd]; exact PM_ret.mpr h
theorem PM_eC {d : D} {Q : D → Store → Prop} : PM (eC d ρ) S Q ↔ Q d S := PM_ret
theorem PM_eOp {o : D → D → M D} {a b : Ev} {Q : D → Store → Prop} : PM (eOp o a b ρ) S Q ↔ PM (a ρ) S fun x S1 => PM (b ρ) S1 fun y S2 => PM (o x y) S2 Q := by
  unfold eOp; simp only [PM_bind]
theorem PM_eUn {o : D → M D} {a : Ev} {Q : D → Store → Prop} : PM (eUn o a ρ) S Q ↔ PM (a ρ) S fun x S1 => PM (o x) S1 Q := by
  unfold eUn; simp only [PM_bind]
theorem PM_eT {t : Tv} {Q : D → Store → Prop} : PM (eT t ρ) S Q ↔ PM (t ρ) S fun k S1 => Q (.bl k) S1 := by
  unfold eT; simp only [PM_bind, PM_ret]
theorem PM_tV {e : Ev} {Q : Bool → Store → Prop} : PM (tV e ρ) S Q ↔ PM (e ρ) S fun d S1 => PM (truth d) S1 Q := by
  unfold tV; simp only [PM_bind]
theorem PM_eAnd {a b : Ev} {Q : D → Store → Prop} : PM (eAnd a b ρ) S Q ↔ PM (a ρ) S fun x S1 => PM (truth x) S1 fun k S2 => if k then PM (b ρ) S2 Q else Q x S2 := by
  unfold eAnd
  simp only [PM_bind]
  constructor <;> intro h <;> refine h.imp fun x S1 h => h.imp fun k S2 h => ?_
  · cases k
    · exact PM_ret.mp h
    · exact h
  · cases k
    · exact PM_ret.mpr h
    · exact h
theorem PM_eOr {a b : Ev} {Q : D → Store → Prop} : PM (eOr a b ρ) S Q ↔ PM (a ρ) S fun x S1 => PM (truth x) S1 fun k S2 => if k then Q x S2 else PM (b ρ) S2 Q := by
  unfold eOr
  simp only [PM_bind]
  constructor <;> intro h <;> refine h.imp fun x S1 h => h.imp fun k S2 h => ?_
  · cases k
    · exact h
    · exact PM_ret.mp h
  · cases k
    · exact h
    · exact PM_ret.mpr h
theorem PM_tAnd {a b : Tv} {Q : Bool → Store → Prop} : PM (tAnd a b ρ) S Q ↔ PM (a ρ) S fun k S1 => if k then PM (b ρ) S1 Q else Q false S1 := by
  unfold tAnd
  simp only [PM_bind]
  constructor <;> intro h <;> refine h.imp fun k S2 h => ?_
  · cases k
    · exact PM_ret.mp h
    · exact h
  · cases k
    · exact PM_ret.mpr h
    · exact h
theorem PM_tOr {a b : Tv} {Q : Bool → Store → Prop} : PM (tOr a b ρ) S Q ↔ PM (a ρ) S fun k S1 => if k then Q true S1 else PM (b ρ) S1 Q := by
  unfold tOr
  simp only [PM_bind]
  constructor <;> intro h <;> refine h.imp fun k S2 h => ?_
  · cases k
    · exact h
    · exact PM_ret.mp h
  · cases k
    · exact h
    · exact PM_ret.mpr h
theorem PM_tNot {a : Tv} {Q : Bool → Store → Prop} : PM (tNot a ρ) S Q ↔ PM (a ρ) S fun k S1 => Q (!k) S1 := by
  unfold tNot; simp only [PM_bind, PM_ret]
theorem PM_eIf {t : Tv} {a b : Ev} {Q : D → Store → Prop} : PM (eIf t a b ρ) S Q ↔ PM (t ρ) S fun k S1 => if k then PM (a ρ) S1 Q else PM (b ρ) S1 Q := by
  unfold eIf
  simp only [PM_bind]
  constructor <;> intro h <;> refine h.imp fun k S2 h => ?_ <;> cases k <;> exact h
theorem PM_tIf {t : Tv} {a b : Tv} {Q : Bool → Store → Prop} : PM (tIf t a b ρ) S Q ↔ PM (t ρ) S fun k S1 => if k then PM (a ρ) S1 Q else PM (b ρ) S1 Q := by
  unfold tIf
  simp only [PM_bind]
  constructor <;> intro h <;> refine h.imp fun k S2 h => ?_ <;> cases k <;> exact h
theorem PM_tCmp {c : D → D → M Bool} {a b : Ev} {Q : Bool → Store → Prop} : PM (tCmp c a b ρ) S Q ↔ PM (a ρ) S fun x S1 => PM (b ρ) S1 fun y S2 => PM (c x y) S2 Q := by
  unfold tCmp; simp only [PM_bind]
theorem PM_tChn {a : Ev} {r : Chn} {Q : Bool → Store → Prop} : PM (tChn a r ρ) S Q ↔ PM (a ρ) S fun x S1 => PM (r.run x ρ) S1 Q := by
  unfold tChn; simp only [PM_bind]
theorem PM_last {c : D → D → M Bool} {b : Ev} {x : D} {Q : Bool → Store → Prop} : PM (Chn.run x ρ (.last c b)) S Q ↔ PM (b ρ) S fun y S2 => PM (c x y) S2 Q := by
  unfold Chn.run; simp only [PM_bind]
theorem PM_more {c : D → D → M Bool} {b : Ev} {r : Chn} {x : D} {Q : Bool → Store → Prop} : PM (Chn.run x ρ (.more c b r)) S Q ↔ PM (b ρ) S fun y S2 => PM (c x y) S2 fun k S3 => if k then PM (r.run y ρ) S3 Q else Q false S3 := by
  conv => lhs; unfold Chn.run
  simp only [PM_bind]
  constructor <;> intro h <;> refine h.imp fun y S2 h => h.imp fun k S3 h => ?_
  · cases k
    · exact PM_ret.mp h
    · exact h
  · cases k
    · exact PM_ret.mpr h
    · exact h
theorem PM_aNil {Q : List D → Store → Prop} : PM (aNil ρ) S Q ↔ Q [] S := PM_ret
theorem PM_aCons {a : Ev} {r : Av} {Q : List D → Store → Prop} : PM (aCons a r ρ) S Q ↔ PM (a ρ) S fun x S1 => PM (r ρ) S1 fun xs S2 => Q (x :: xs) S2 := by
  unfold aCons; simp only [PM_bind, PM_ret]
theorem PM_eTup {a : Av} {Q : D → Store → Prop} : PM (eTup a ρ) S Q ↔ PM (a ρ) S fun xs S1 => xs.length ≤ sizeLine ∧ Q (.tup xs) S1 := by
  unfold eTup; simp only [PM_bind, PM_guard, PM_ret]
theorem PM_newL {xs : List D} {Q : D → Store → Prop} : PM (newL xs) S Q ↔ Q (.ref S.length) (S ++ [.lst xs]) := PM_of rfl
theorem PM_eLst {a : Av} {Q : D → Store → Prop} : PM (eLst a ρ) S Q ↔ PM (a ρ) S fun xs S1 => xs.length ≤ sizeLine ∧ Q (.ref S1.length) (S1 ++ [.lst xs]) := by
  unfold eLst; simp only [PM_bind, PM_guard, PM_newL]
theorem PM_eCall {C : Calls} {i n : Nat} {a : Av} {Q : D → Store → Prop} : PM (eCall C i n a ρ) S Q ↔ PM (a ρ) S fun ds S1 => ds.length = n ∧ PM (C.fn i ds) S1 Q := by
  unfold eCall; simp only [PM_bind, PM_guard]
theorem PM_eNew {C : Calls} {i n : Nat} {a : Av} {Q : D → Store → Prop} : PM (eNew C i n a ρ) S Q ↔ PM (a ρ) S fun ds S1 => ds.length = n ∧ PM (C.new i ds) S1 Q := by
  unfold eNew; simp only [PM_bind, PM_guard]
theorem PM_eDrop {f : Ev} {Q : D → Store → Prop} : PM (eDrop f ρ) S Q ↔ PM (f ρ) S fun d S' => Q d (dropR S d S') := by
  unfold PM eDrop
  constructor
  · rintro ⟨a, S', e, h⟩
    split at e
    · rename_i d S1 h1; cases e; exact ⟨_, _, h1, h⟩
    · rename_i hn; exact (hn _ _ e).elim
  · rintro ⟨a, S', e, h⟩
    exact ⟨a, _, by rw [e], h⟩
theorem PM_getL {r : Nat} {xs : List D} {Q : List D → Store → Prop} (h : S[r]? = some (.lst xs)) : PM (getL r) S Q ↔ Q xs S := PM_of (by unfold getL; rw [h])
/-! statements -/
theorem PZ_of {f : Sv} {Q : RS → Prop} {r : RS} (e : f ρ S = some r) (c : r.calm) : PZ f ρ S Q ↔ Q r := ⟨fun ⟨r', e2, _, h⟩ => by rw [e] at e2; cases e2; exact h, fun h => ⟨r, e, c, h⟩⟩
theorem PZ_bind {x : En → M α} {k : α → Sv} {Q : RS → Prop} : PZ (sBind x k) ρ S Q ↔ PM (x ρ) S fun a S' => PZ (k a) ρ S' Q := by
  constructor
  · rintro ⟨r, e, c, h⟩
    unfold sBind at e
    cases ex : x ρ S with
    | none => rw [ex] at e; cases e
    | some r1 =>
      rw [ex] at e
      cases r1 with
      | ok a S' => exact ⟨a, S', ex, r, e, c, h⟩
      | ex _ _ => cases e; exact c.elim
  · rintro ⟨a, S', e, r, e2, c, h⟩
    exact ⟨r, by unfold sBind; rw [e]; exact e2, c, h⟩
theorem PZ_nx {Q : RS → Prop} : PZ sNx ρ S Q ↔ Q (.nx ρ S) := PZ_of rfl trivial
theorem PZ_bk {Q : RS → Prop} : PZ sBk ρ S Q ↔ Q (.bk ρ S) := PZ_of rfl trivial
theorem PZ_ct {Q : RS → Prop} : PZ sCt ρ S Q ↔ Q (.ct ρ S) := PZ_of rfl trivial
theorem PZ_rt {d : D} {Q : RS → Prop} : PZ (sRt d) ρ S Q ↔ Q (.rt d S) := PZ_of rfl trivial
/-- behind a statement -/
def SQ (P : En → Store → Prop) (Q : RS → Prop) : RS → Prop
  | .nx ρ S => P ρ S
  | .ct ρ S => Q (.ct ρ S)
  | .bk ρ S => Q (.bk ρ S)
  | .rt d S => Q (.rt d S)
  | .ex e ρ S => Q (.ex e ρ S)
theorem SQ_nx {P : En → Store → Prop} {Q : RS → Prop} : SQ P Q (.nx ρ S) = P ρ S := rfl
theorem SQ_rt {P : En → Store → Prop} {Q : RS → Prop} {d : D} : SQ P Q (.rt d S) = Q (.rt d S) := rfl
theorem SQ_ct {P : En → Store → Prop} {Q : RS → Prop} : SQ P Q (.ct ρ S) = Q (.ct ρ S) := rfl
theorem SQ_bk {P : En → Store → Prop} {Q : RS → Prop} : SQ P Q (.bk ρ S) = Q (.bk ρ S) := rfl
theorem PZ_seq {f g : Sv} {Q : RS → Prop} : PZ (sSeq f g) ρ S Q ↔ PZ f ρ S (SQ (fun ρ' S' => PZ g ρ' S' Q) Q) := by
  constructor
  · rintro ⟨r, e, c, h⟩
    unfold sSeq at e
    cases ef : f ρ S with
    | none => rw [ef] at e; cases e
    | some r1 =>
      rw [ef] at e
      cases r1 with
      | nx ρ' S' => exact ⟨_, ef, trivial, r, e, c, h⟩
      | rt d S' => cases e; exact ⟨_, ef, c, h⟩
      | bk _ _ => cases e; exact ⟨_, ef, c, h⟩
      | ct _ _ => cases e; exact ⟨_, ef, c, h⟩
      | ex _ _ _ => cases e; exact c.elim
  · rintro ⟨r, e, c, h⟩
    cases r with
    | nx ρ' S' =>
      obtain ⟨r2, e2, c2, h⟩ := h
      exact ⟨r2, by unfold sSeq; rw [e]; exact e2, c2, h⟩
    | rt d S' => exact ⟨_, by unfold sSeq; rw [e], c, h⟩
    | bk _ _ => exact ⟨_, by unfold sSeq; rw [e], c, h⟩
    | ct _ _ => exact ⟨_, by unfold sSeq; rw [e], c, h⟩
    | ex _ _ _ => exact c.elim
theorem PZ_ret {e : Ev} {Q : RS → Prop} : PZ (sRet e) ρ S Q ↔ PM (e ρ) S fun d S' => Q (.rt d S') := by
  unfold sRet; simp only [PZ_bind, PZ_rt]
theorem PZ_drop {e : Ev} {Q : RS → Prop} : PZ (sDrop e) ρ S Q ↔ PM (e ρ) S fun _ S' => Q (.nx ρ S') := by
  unfold sDrop; simp only [PZ_bind, PZ_nx]
theorem PZ_if {t : Tv} {f g : Sv} {Q : RS → Prop} : PZ (sIf t f g) ρ S Q ↔ PM (t ρ) S fun b S' => if b then PZ f ρ S' Q else PZ g ρ S' Q := by
  unfold sIf
  simp only [PZ_bind]
  constructor <;> intro h <;> refine h.imp fun b S' q => ?_ <;> cases b <;> exact q
theorem PZ_asg {g : Gv} {e : Ev} {Q : RS → Prop} : PZ (sAsg g e) ρ S Q ↔ PM (e ρ) S fun d S' => PZ (g d) ρ S' Q := PZ_bind
theorem PZ_one {i : Nat} {d : D} {Q : RS → Prop} : PZ (gOne i d) ρ S Q ↔ Q (.nx (ρ.set i (some d)) S) := PZ_of rfl trivial
theorem PZ_par {is : List Nat} {a : Av} {Q : RS → Prop} : PZ (sPar is a) ρ S Q ↔ PM (a ρ) S fun ds S' => ds.length = is.length ∧ Q (.nx (setAll ρ is ds) S') := by
  unfold sPar
  rw [PZ_bind]
  have key : ∀ (ds : List D) S', PZ (optS fun ρ => if ds.length = is.length then some (setAll ρ is ds) else none) ρ S' Q ↔ ds.length = is.length ∧ Q (.nx (setAll ρ is ds) S') := fun ds S' => by
    by_cases hl : ds.length = is.length
    · rw [PZ_of (r := .nx (setAll ρ is ds) S') (by unfold optS; simp only [hl, if_true]) trivial]
      simp [hl]
    · constructor
      · rintro ⟨r, e, _⟩
        unfold optS at e
        simp only [hl, if_false] at e
        cases e
      · rintro ⟨h, _⟩; exact absurd h hl
  constructor <;> intro h <;> refine h.imp fun ds S' q => ?_
  · exact (key _ _).mp q
  · exact (key _ _).mpr q
theorem PZ_allN {Q : RS → Prop} : PZ (gAll [] []) ρ S Q ↔ Q (.nx ρ S) := PZ_of rfl trivial
theorem PZ_allC {g : Gv} {gs : List Gv} {d : D} {ds : List D} {Q : RS → Prop} : PZ (gAll (g :: gs) (d :: ds)) ρ S Q ↔ PZ (g d) ρ S (SQ (fun ρ' S' => PZ (gAll gs ds) ρ' S' Q) Q) := PZ_seq
theorem PZ_tup {gs : List Gv} {ds : List D} {Q : RS → Prop} (hl : ds.length = gs.length) : PZ (gTupG gs (.tup ds)) ρ S Q ↔ PZ (gAll gs ds) ρ S Q := by
  unfold gTupG
  simp only [hl, if_true]
theorem PZ_sub {o i : Ev} {d : D} {Q : RS → Prop} : PZ (gSubS o i d) ρ S Q ↔ PM (o ρ) S fun x S1 => PM (i ρ) S1 fun y S2 => PM (oPut x y d) S2 fun _ S3 => Q (.nx ρ S3) := by
  unfold gSubS; simp only [PZ_bind, PZ_nx]
theorem PZ_fld {Γ : Pg} {f : Str} {o : Ev} {d : D} {Q : RS → Prop} : PZ (gFldS Γ f o d) ρ S Q ↔ PM (o ρ) S fun x S1 => PM (oPutF Γ f x d) S1 fun _ S2 => Q (.nx ρ S2) := by
  unfold gFldS; simp only [PZ_bind, PZ_nx]
/-- a turn -/
def TQ (P : En → Store → Prop) (Q : RS → Prop) : RS → Prop
  | .nx ρ S => P ρ S
  | .ct ρ S => P ρ S
  | .bk ρ S => Q (.nx ρ S)
  | .rt d S => Q (.rt d S)
  | .ex e ρ S => Q (.ex e ρ S)
theorem TQ_nx {P : En → Store → Prop} {Q : RS → Prop} : TQ P Q (.nx ρ S) = P ρ S := rfl
theorem TQ_ct {P : En → Store → Prop} {Q : RS → Prop} : TQ P Q (.ct ρ S) = P ρ S := rfl
theorem TQ_bk {P : En → Store → Prop} {Q : RS → Prop} : TQ P Q (.bk ρ S) = Q (.nx ρ S) := rfl
theorem TQ_rt {P : En → Store → Prop} {Q : RS → Prop} {d : D} : TQ P Q (.rt d S) = Q (.rt d S) := rfl
theorem PZ_turn {b k : Sv} {Q : RS → Prop} (h : PZ b ρ S (TQ (fun ρ' S' => PZ k ρ' S' Q) Q)) : PZ (turnS b k) ρ S Q := by
  obtain ⟨r, e, c, h⟩ := h
  cases r with
  | nx ρ' S' => obtain ⟨r2, e2, c2, h⟩ := h; exact ⟨r2, by unfold turnS; rw [e]; exact e2, c2, h⟩
  | ct ρ' S' => obtain ⟨r2, e2, c2, h⟩ := h; exact ⟨r2, by unfold turnS; rw [e]; exact e2, c2, h⟩
  | rt d S' => exact ⟨_, by unfold turnS; rw [e], c, h⟩
  | bk ρ2 S2 => exact ⟨.nx ρ2 S2, by unfold turnS; rw [e], trivial, h⟩
  | ex _ _ _ => exact c.elim
theorem PZ_while {t : Tv} {b : Sv} {Q : RS → Prop} (h : PM (t ρ) S fun c S' => if c then PZ b ρ S' (TQ (fun ρ' S' => PZ (sWhile t b) ρ' S' Q) Q) else Q (.nx ρ S')) : PZ (sWhile t b) ρ S Q := by
  have h2 : PZ (sBind t fun c => if c then turnS b (sWhile t b) else sNx) ρ S Q := PZ_bind.mpr (h.imp fun c S' q => by
    cases c with
    | true => exact PZ_turn q
    | false => exact PZ_nx.mpr q)
  obtain ⟨r, e, c, h2⟩ := h2
  exact ⟨r, sWhile_step e, c, h2⟩
theorem PZ_for {it : Iv} {tg : Tg} {b : Sv} {Q : RS → Prop} : PZ (sFor it tg b) ρ S Q ↔ PM (it ρ) S fun itm S' => PZ (forGo itm.src tg b itm.items) ρ S' Q := PZ_bind
/-- a for's invariant -/
theorem PZ_go {src : Src} {tg : Tg} {b : Sv} {Q : RS → Prop} {items : List D} (I : Nat → En → Store → Prop) (h0 : I 0 ρ S)
    (hs : ∀ j d ρ S, items[j]? = some d → I j ρ S → src.ok S ∧ ∃ ρ1, tg.asg d ρ = some ρ1 ∧ PZ b ρ1 S (TQ (I (j + 1)) Q)) (hd : ∀ ρ S, I items.length ρ S → src.ok S ∧ Q (.nx ρ S)) : PZ (forGo src tg b items) ρ S Q := by
  induction items generalizing ρ S I with
  | nil =>
    obtain ⟨h1, h2⟩ := hd ρ S h0
    exact ⟨.nx ρ S, by unfold forGo; rw [if_pos h1], trivial, h2⟩
  | cons d ds ih =>
    obtain ⟨h1, ρ1, h2, h3⟩ := hs 0 d ρ S rfl h0
    have h4 : PZ (turnS b (forGo src tg b ds)) ρ1 S Q := PZ_turn (h3.imp fun r q => by
      have go : ∀ ρ' S', I 1 ρ' S' → PZ (forGo src tg b ds) ρ' S' Q := fun ρ' S' q => ih (fun j => I (j + 1)) q (fun j d' ρ S hj hI => hs (j + 1) d' ρ S (by simpa using hj) hI) (fun ρ S hI => hd ρ S (by simpa using hI))
      cases r with
      | nx ρ' S' => exact go _ _ q
      | ct ρ' S' => exact go _ _ q
      | rt _ _ => exact q
      | bk _ _ => exact q
      | ex _ _ _ => exact q)
    obtain ⟨r, e, c, h4⟩ := h4
    refine ⟨r, ?_, c, h4⟩
    unfold forGo
    rw [if_pos h1]
    unfold sSeq optS
    rw [h2]
    exact e
/-- a comprehension: what each item gives -/
theorem PM_comp {own : List Nat} {it : Iv} {tg : Tg} {c : Tv} {e : Ev} {Q : D → Store → Prop} (h : PM (it ρ) S fun itm S1 => itm.items.length < sizeLine ∧ ∃ g : D → Option D,
      (∀ acc, itm.src.ok (S1 ++ [.lst acc])) ∧ (∀ d ∈ itm.items, ∃ ρ1, tg.asg d (own.foldr (fun i ρ => ρ.set i none) ρ) = some ρ1 ∧ ∀ acc, PM (c ρ1) (S1 ++ [.lst acc]) fun b S' => S' = S1 ++ [.lst acc] ∧
        if b then PM (e ρ1) S' fun y S'' => S'' = S' ∧ g d = some y else g d = none) ∧ Q (.ref S1.length) (S1 ++ [.lst (itm.items.filterMap g)])) : PM (eComp own it tg c e ρ) S Q := by
  have key : PM (it ρ) S fun itm S1 => PM (fun S => compGo S.length itm.src tg c e (own.foldr (fun i ρ => ρ.set i none) ρ) itm.items (S ++ [.lst []]) : M D) S1 Q := ?_
  · exact (PM_bind (x := it ρ) (f := fun itm => (fun S => compGo S.length itm.src tg c e (own.foldr (fun i ρ => ρ.set i none) ρ) itm.items (S ++ [.lst []]) : M D))).mpr key
  refine h.imp fun itm S1 ⟨hz, g, hok, hd, hQ⟩ => ?_
  have go : ∀ (items : List D) (acc : List D), (∀ d ∈ items, d ∈ itm.items) → acc.length + items.length < sizeLine → compGo S1.length itm.src tg c e (own.foldr (fun i ρ => ρ.set i none) ρ) items (S1 ++ [.lst acc]) = some (.ok (.ref S1.length) (S1 ++ [.lst (acc ++ items.filterMap g)])) := by
    intro items
    induction items with
    | nil =>
      intro acc _ _
      unfold compGo
      rw [if_pos (hok acc)]
      simp
    | cons d ds ih =>
      intro acc hm hl
      obtain ⟨ρ1, h1, h2⟩ := hd d (hm d List.mem_cons_self)
      obtain ⟨b, S', e1, hS, h3⟩ := h2 acc
      subst hS
      unfold compGo
      rw [if_pos (hok acc), h1]
      simp only [e1]
      cases b with
      | false =>
        simp only [Bool.false_eq_true, if_false] at h3
        simp only
        rw [ih acc (fun d hd => hm d (List.mem_cons_of_mem _ hd)) (by simp at hl; omega), List.filterMap_cons, h3]
      | true =>
        simp only [if_true] at h3
        obtain ⟨y, S'', e2, hS2, h4⟩ := h3
        subst hS2
        simp only [e2]
        have hget : (S1 ++ [Cell.lst acc])[S1.length]? = some (.lst acc) := by simp
        rw [hget]
        simp only
        rw [if_pos (by simp at hl; omega)]
        have hset : (S1 ++ [Cell.lst acc]).set S1.length (.lst (acc ++ [y])) = S1 ++ [.lst (acc ++ [y])] := by simp
        rw [hset, ih (acc ++ [y]) (fun d hd => hm d (List.mem_cons_of_mem _ hd)) (by simp at hl ⊢; omega), List.filterMap_cons, h4]
        simp
  have := go itm.items [] (fun d hd => hd) (by simpa using hz)
  exact (PM_of (by simpa using this)).mpr hQ
/-- a call, by the body -/
theorem PM_fn {Γ : Pg} {bs : List (Calls → Sv)} {k i : Nat} {f : Fd} {b : Calls → Sv} {ds : List D} {Q : D → Store → Prop} (hf : Γ.fns[i]? = some f) (hb : bs[i]? = some b) (hl : ds.length = f.ps.length)
    (h : PZ (b (callsAt Γ bs k)) (ds.map some ++ List.replicate (f.N.length - ds.length) none) S fun r => match r with
      | .rt d S' => Q d (dropR S d S')
      | .nx _ S' => Q .non (dropR S .non S')
      | _ => False) : PM ((callsAt Γ bs (k + 1)).fn i ds) S Q := by
  obtain ⟨r, e, c, h⟩ := h
  have e1 : (callsAt Γ bs (k + 1)).fn i ds = runF f b (callsAt Γ bs k) ds := by
    show (match Γ.fns[i]?, bs[i]? with
      | some f, some b => runF f b (callsAt Γ bs k) ds
      | _, _ => .stuck) = _
    rw [hf, hb]
  rw [e1]
  unfold PM runF
  cases r with
  | rt d S' => exact ⟨_, _, by simp only [hl, if_true] at e ⊢; rw [e], h⟩
  | nx ρ' S' => exact ⟨_, _, by simp only [hl, if_true] at e ⊢; rw [e], h⟩
  | bk _ _ => exact h.elim
  | ct _ _ => exact h.elim
  | ex _ _ _ => exact h.elim
/-- a new frozen instance -/
theorem PM_new {Γ : Pg} {bs : List (Calls → Sv)} {k c i : Nat} {cd : Cd} {ds xs : List D} {Q : D → Store → Prop} (hc : Γ.cls[c]? = some cd) (hi : cd.init = some i) (hz : cd.frozen = true)
    (h : PM ((callsAt Γ bs k).fn i (.ref S.length :: ds)) (S ++ [.obj c []]) fun d S' => d = .non ∧ S' = S ++ [.obj c (cd.fields.zip xs)]) (hx : xs.length = cd.fields.length) (hb : belowDs S.length xs) (hQ : Q (.obj c xs) S) : PM ((callsAt Γ bs (k + 1)).new c ds) S Q := by
  obtain ⟨d, S', e, rfl, rfl⟩ := h
  refine ⟨.obj c xs, S, ?_, hQ⟩
  show runMk Γ (callsAt Γ bs k).fn c ds S = _
  unfold runMk
  rw [hc]
  simp only [hi, e]
  have e1 : (S ++ [Cell.obj c (cd.fields.zip xs)])[S.length]? = some (.obj c (cd.fields.zip xs)) := by simp
  rw [e1]
  simp only [hz, if_true]
  have e2 : (cd.fields.zip xs).map (·.1) = cd.fields := List.map_fst_zip (by omega)
  have e3 : (cd.fields.zip xs).map (·.2) = xs := List.map_snd_zip (by omega)
  rw [if_pos ⟨rfl, e2, by simp, by rw [e3]; exact hb, .inl (by simp)⟩, e3]
  simp
end
end MP

/-! MPX: the operations' ends. -/
namespace MP
open PySem PySem.Spec PyProof.Rows L2
section
variable {S : Store} {ρ : En} {Q : D → Store → Prop} {B : Bool → Store → Prop} {i j : Int} {Γ : Pg} {C : Calls}
theorem PM_add : PM (oAdd (.int i) (.int j)) S Q ↔ Q (.int (i + j)) S := PM_ret
theorem PM_sub : PM (oSub (.int i) (.int j)) S Q ↔ Q (.int (i - j)) S := PM_ret
theorem PM_mul : PM (oMul (.int i) (.int j)) S Q ↔ mulOk i j ∧ Q (.int (i * j)) S := by
  show PM (M.guard (mulOk i j) (.ret _)) S Q ↔ _
  rw [PM_guard, PM_ret]
theorem PM_fdiv : PM (oFdiv (.int i) (.int j)) S Q ↔ divOk j ∧ Q (.int (i.fdiv j)) S := by
  show PM (M.guard (divOk j) (.ret _)) S Q ↔ _
  rw [PM_guard, PM_ret]
theorem PM_mod : PM (oMod (.int i) (.int j)) S Q ↔ j ≠ 0 ∧ Q (.int (i.fmod j)) S := by
  show PM (M.guard (j ≠ 0) (.ret _)) S Q ↔ _
  rw [PM_guard, PM_ret]
theorem PM_pow : PM (oPow (.int i) (.int j)) S Q ↔ powOk i j ∧ Q (.int (i ^ j.toNat)) S := by
  show PM (M.guard (powOk i j) (.ret _)) S Q ↔ _
  rw [PM_guard, PM_ret]
theorem PM_neg : PM (oNeg (.int i)) S Q ↔ Q (.int (-i)) S := PM_ret
theorem PM_lt : PM (cLt (.int i) (.int j)) S B ↔ B (decide (i < j)) S := PM_ret
theorem PM_le : PM (cLe (.int i) (.int j)) S B ↔ B (decide (i ≤ j)) S := PM_ret
theorem PM_gt : PM (cGt (.int i) (.int j)) S B ↔ B (decide (j < i)) S := PM_ret
theorem PM_ge : PM (cGe (.int i) (.int j)) S B ↔ B (decide (j ≤ i)) S := PM_ret
theorem cEq_int : cEq (.int i) (.int j) S = some (.ok (decide (i = j)) S) := by
  show (if min (PyData.int i).depth (PyData.int j).depth ≤ 200 then some (R.ok (PyData.eqv (.int i) (.int j)) S) else none) = _
  rw [if_pos (show min (PyData.int i).depth (PyData.int j).depth ≤ 200 from Nat.le_trans (Nat.min_le_left _ _) (by show (PyData.int i).depth ≤ 200; unfold PyData.depth; decide))]
  rfl
theorem PM_eqi : PM (cEq (.int i) (.int j)) S B ↔ B (decide (i = j)) S := PM_of cEq_int
theorem PM_cNe {a b : D} : PM (cNe a b) S B ↔ PM (cEq a b) S fun k S' => B (!k) S' := by
  unfold cNe; simp only [PM_bind, PM_ret]
theorem PM_nei : PM (cNe (.int i) (.int j)) S B ↔ B (!decide (i = j)) S := by rw [PM_cNe, PM_eqi]
theorem own_int {mt : Str} {base : D → D → M Bool} {y : D} : cOwn Γ C mt base (.int i) y = base (.int i) y := rfl
theorem own_bl {mt : Str} {base : D → D → M Bool} {b : Bool} {y : D} : cOwn Γ C mt base (.bl b) y = base (.bl b) y := rfl
theorem own_tup {mt : Str} {base : D → D → M Bool} {b : List D} {y : D} : cOwn Γ C mt base (.tup b) y = base (.tup b) y := rfl
theorem own_str {mt : Str} {base : D → D → M Bool} {b : Str} {y : D} : cOwn Γ C mt base (.str b) y = base (.str b) y := rfl
theorem PM_ownL {mt : Str} {base : D → D → M Bool} {r : Nat} {xs : List D} {y : D} (h : S[r]? = some (.lst xs)) : PM (cOwn Γ C mt base (.ref r) y) S B ↔ PM (base (.ref r) y) S B := by
  have : cOwn Γ C mt base (.ref r) y S = base (.ref r) y S := by
    unfold cOwn clsD
    simp only [h]
  unfold PM
  rw [this]
theorem PM_isNon {a : D} : PM (cIs a .non) S B ↔ B a.isNon S := PM_ret
theorem PM_isBl {a : D} {b : Bool} : PM (cIs a (.bl b)) S B ↔ B (a.isBl b) S := PM_ret
theorem PM_isnot {a b : D} : PM (cIsNot a b) S B ↔ PM (cIs a b) S fun k S' => B (!k) S' := by
  unfold cIsNot; simp only [PM_bind, PM_ret]
theorem PM_tbl {b : Bool} : PM (truth (.bl b)) S B ↔ B b S := PM_ret
theorem PM_tint : PM (truth (.int i)) S B ↔ B (i != 0) S := PM_ret
theorem PM_tnon : PM (truth .non) S B ↔ B false S := PM_ret
theorem PM_ttup {xs : List D} : PM (truth (.tup xs)) S B ↔ B (!xs.isEmpty) S := PM_ret
theorem PM_tlst {r : Nat} {xs : List D} (h : S[r]? = some (.lst xs)) : PM (truth (.ref r)) S B ↔ B (!xs.isEmpty) S := PM_of (by unfold truth; simp only [h])
theorem PM_lenT {xs : List D} : PM (fLen (.tup xs)) S Q ↔ Q (.int xs.length) S := PM_ret
theorem PM_lenF {xs : List D} : PM (fLen (.flst xs)) S Q ↔ Q (.int xs.length) S := PM_ret
theorem PM_lenL {r : Nat} {xs : List D} (h : S[r]? = some (.lst xs)) : PM (fLen (.ref r)) S Q ↔ Q (.int xs.length) S := PM_of (by unfold fLen; simp only [h])
theorem PM_int : PM (fInt (.int i)) S Q ↔ Q (.int i) S := PM_ret
theorem PM_abs : PM (fAbs (.int i)) S Q ↔ Q (.int (if i < 0 then -i else i)) S := PM_ret
theorem PM_tupL {r : Nat} {xs : List D} (h : S[r]? = some (.lst xs)) : PM (fTup (.ref r)) S Q ↔ Q (.tup xs) S := by
  show PM (M.bind (getL r) fun xs => .ret (.tup xs)) S Q ↔ _
  rw [PM_bind, PM_getL h, PM_ret]
theorem PM_tupT {xs : List D} : PM (fTup (.tup xs)) S Q ↔ Q (.tup xs) S := PM_ret
theorem PM_lstF {xs : List D} : PM (fLst (.flst xs)) S Q ↔ Q (.ref S.length) (S ++ [.lst xs]) := PM_of rfl
theorem PM_ixT {xs : List D} : PM (oIx (.tup xs) (.int i)) S Q ↔ ∃ d, atI xs i = some d ∧ Q d S := PM_optM
theorem PM_ixL {r : Nat} {xs : List D} (h : S[r]? = some (.lst xs)) : PM (oIx (.ref r) (.int i)) S Q ↔ ∃ d, atI xs i = some d ∧ Q d S := by
  unfold PM oIx
  simp only [h]
  cases atI xs i with
  | none => simp
  | some d =>
    constructor
    · rintro ⟨_, _, e, q⟩; cases e; exact ⟨d, rfl, q⟩
    · rintro ⟨d', e, q⟩; cases e; exact ⟨d, S, rfl, q⟩
theorem PM_ixD {r : Nat} {kvs : List (Key × D)} {z : Str} {d : D} (h : S[r]? = some (.dct kvs)) (hd : valD kvs (.inr z) = some d) : PM (oIx (.ref r) (.str z)) S Q ↔ Q d S := PM_of (by unfold oIx; simp only [h, keyD, hd])
theorem PM_putD {r : Nat} {kvs : List (Key × D)} {z : Str} {d : D} {U : Unit → Store → Prop} (h : S[r]? = some (.dct kvs)) (hl : kvs.length < sizeLine) : PM (oPut (.ref r) (.str z) d) S U ↔ U () (S.set r (.dct (putD kvs (.inr z) d))) := PM_of (by unfold oPut; simp only [h, keyD, hl, if_true])
theorem PM_putL {r : Nat} {xs : List D} {n : Nat} {d : D} {U : Unit → Store → Prop} (h : S[r]? = some (.lst xs)) (hn : ixN xs.length i = some n) : PM (oPut (.ref r) (.int i) d) S U ↔ U () (S.set r (.lst (xs.set n d))) := PM_of (by unfold oPut; simp only [h, hn])
theorem PM_putF {r c : Nat} {fs : List (Str × D)} {f : Str} {d : D} {U : Unit → Store → Prop} (h : S[r]? = some (.obj c fs)) (hf : f ∈ Γ.fields c) (hl : fs.length < 1000) : PM (oPutF Γ f (.ref r) d) S U ↔ U () (S.set r (.obj c (putFD f d fs))) := PM_of (by unfold oPutF; simp only [h, hf, hl, and_self, if_true])
theorem PM_fldO {c : Nat} {xs : List D} {f : Str} {d : D} (h : ((Γ.fields c).zip xs).lookup f = some d) : PM (oFld Γ f (.obj c xs)) S Q ↔ Q d S := by
  show PM (optM (((Γ.fields c).zip xs).lookup f)) S Q ↔ _
  rw [h]; exact PM_ret
theorem PM_isi {x c : D} {t : Ty} {b : Bool} (h1 : tyD S x = some t) (h2 : isiK Γ t c = some b) : PM (fIsi Γ x c) S Q ↔ Q (.bl b) S := PM_of (by unfold fIsi; simp only [h1, h2])
theorem PM_eM {T : String} {mm : D → List D → M D} {o : Ev} {a : Av} : PM (eM T mm o a ρ) S Q ↔ PM (o ρ) S fun x S1 => isKind T x S1 = true ∧ PM (a ρ) S1 fun ds S2 => PM (mm x ds) S2 Q := by
  have h1 : ∀ x S1, PM (fun S => if isKind T x S = true then M.bind (a ρ) (fun ds => mm x ds) S else none : M D) S1 Q ↔ isKind T x S1 = true ∧ PM (a ρ) S1 fun ds S2 => PM (mm x ds) S2 Q := fun x S1 => by
    rw [← PM_bind]
    unfold PM
    by_cases h : isKind T x S1 = true
    · simp only [h, if_true, true_and]
    · rw [Bool.not_eq_true] at h
      constructor
      · rintro ⟨_, _, e, _⟩
        simp only [h] at e
        cases e
      · rintro ⟨h2, _⟩
        rw [h] at h2; cases h2
  have h2 : PM (eM T mm o a ρ) S Q ↔ PM (o ρ) S fun x S1 => PM (fun S => if isKind T x S = true then M.bind (a ρ) (fun ds => mm x ds) S else none : M D) S1 Q :=
    PM_bind (x := o ρ) (f := fun x => (fun S => if isKind T x S = true then M.bind (a ρ) (fun ds => mm x ds) S else none : M D))
  rw [h2]
  constructor <;> intro h <;> refine h.imp fun x S1 q => ?_
  · exact (h1 _ _).mp q
  · exact (h1 _ _).mpr q
theorem kindL {r : Nat} {xs : List D} (h : S[r]? = some (.lst xs)) : isKind "list" (.ref r) S = true := by unfold isKind; simp only [h]; decide
theorem PM_append {r : Nat} {xs : List D} {y : D} (h : S[r]? = some (.lst xs)) (hl : xs.length < sizeLine) : PM (mAppend (.ref r) [y]) S Q ↔ Q .non (S.set r (.lst (xs ++ [y]))) := PM_of (by unfold mAppend; simp only [h, hl, if_true])
theorem PM_addL {r q : Nat} {xs ys : List D} (h : S[r]? = some (.lst xs)) (h2 : S[q]? = some (.lst ys)) : PM (oAdd (.ref r) (.ref q)) S Q ↔ xs.length + ys.length ≤ sizeLine ∧ Q (.ref S.length) (S ++ [.lst (xs ++ ys)]) := by
  show PM (M.bind (getL r) fun xs => .bind (getL q) fun ys => .guard (xs.length + ys.length ≤ sizeLine) (newL (xs ++ ys))) S Q ↔ _
  rw [PM_bind, PM_getL h, PM_bind, PM_getL h2, PM_guard, PM_newL]
theorem PM_mulL {r : Nat} {xs : List D} (h : S[r]? = some (.lst xs)) : PM (oMul (.ref r) (.int i)) S Q ↔ repOk xs.length i ∧ Q (.ref S.length) (S ++ [.lst (List.replicate i.toNat xs).flatten]) := by
  show PM (M.bind (getL r) fun xs => .guard (repOk xs.length i) (newL (List.replicate i.toNat xs).flatten)) S Q ↔ _
  rw [PM_bind, PM_getL h, PM_guard, PM_newL]
/-! loops' items -/
theorem PM_iSeq {e : Ev} {J : Itm → Store → Prop} : PM (iSeq e ρ) S J ↔ PM (e ρ) S fun x S1 => PM (seqM x) S1 fun p S2 => J ⟨p.1, p.2⟩ S2 := by
  unfold iSeq; simp only [PM_bind, PM_ret]
theorem PM_seqT {xs : List D} {J : List D × Src → Store → Prop} : PM (seqM (.tup xs)) S J ↔ J (xs, .non) S := PM_ret
theorem PM_seqF {xs : List D} {J : List D × Src → Store → Prop} : PM (seqM (.flst xs)) S J ↔ J (xs, .non) S := PM_ret
theorem PM_seqL {r : Nat} {xs : List D} {J : List D × Src → Store → Prop} (h : S[r]? = some (.lst xs)) : PM (seqM (.ref r)) S J ↔ J (xs, .lst r xs) S := by
  show PM (M.bind (getL r) fun xs => .ret (xs, .lst r xs)) S J ↔ _
  rw [PM_bind, PM_getL h, PM_ret]
theorem PM_rng1 {e : Ev} {J : Itm → Store → Prop} : PM (iRng1 e ρ) S J ↔ PM (e ρ) S fun x S1 => ∃ j, x = .int j ∧ rngOk j ∧ J ⟨rngL 0 j, .non⟩ S1 := by
  unfold iRng1
  rw [PM_bind]
  constructor <;> intro h <;> refine h.imp fun x S1 q => ?_
  · cases x with
    | int j => exact ⟨j, rfl, by rw [PM_guard, PM_ret] at q; exact q⟩
    | _ => exact (PM_stuck.mp q).elim
  · obtain ⟨j, rfl, q⟩ := q
    rw [PM_guard, PM_ret]; exact q
theorem PM_rng2 {e f : Ev} {J : Itm → Store → Prop} : PM (iRng2 e f ρ) S J ↔ PM (e ρ) S fun x S1 => PM (f ρ) S1 fun y S2 => ∃ i j, x = .int i ∧ y = .int j ∧ (rngOk i ∧ rngOk j) ∧ J ⟨rngL i j, .non⟩ S2 := by
  unfold iRng2
  rw [PM_bind]
  simp only [PM_bind]
  constructor <;> intro h <;> refine h.imp fun x S1 h => h.imp fun y S2 q => ?_
  · cases x with
    | int i =>
      cases y with
      | int j => exact ⟨i, j, rfl, rfl, by rw [PM_guard, PM_ret] at q; exact q⟩
      | _ => exact (PM_stuck.mp q).elim
    | _ => cases y <;> exact (PM_stuck.mp q).elim
  · obtain ⟨i, j, rfl, rfl, q⟩ := q
    rw [PM_guard, PM_ret]; exact q
theorem PM_enum {e : Ev} {J : Itm → Store → Prop} : PM (iEnum' e ρ) S J ↔ PM (e ρ) S fun x S1 => PM (seqM x) S1 fun p S2 => J ⟨enumL p.1, p.2⟩ S2 := by
  unfold iEnum'; simp only [PM_bind, PM_ret]
end

/-! isinstance -/
theorem bs_NoneType_NoneType : bSub "NoneType" "NoneType" = some true := by decide
theorem bs_NoneType_bool : bSub "NoneType" "bool" = some false := by decide
theorem bs_NoneType_int : bSub "NoneType" "int" = some false := by decide
theorem bs_NoneType_str : bSub "NoneType" "str" = some false := by decide
theorem bs_NoneType_list : bSub "NoneType" "list" = some false := by decide
theorem bs_NoneType_tuple : bSub "NoneType" "tuple" = some false := by decide
theorem bs_NoneType_dict : bSub "NoneType" "dict" = some false := by decide
theorem bs_bool_NoneType : bSub "bool" "NoneType" = some false := by decide
theorem bs_bool_bool : bSub "bool" "bool" = some true := by decide
theorem bs_bool_int : bSub "bool" "int" = some true := by decide
theorem bs_bool_str : bSub "bool" "str" = some false := by decide
theorem bs_bool_list : bSub "bool" "list" = some false := by decide
theorem bs_bool_tuple : bSub "bool" "tuple" = some false := by decide
theorem bs_bool_dict : bSub "bool" "dict" = some false := by decide
theorem bs_int_NoneType : bSub "int" "NoneType" = some false := by decide
theorem bs_int_bool : bSub "int" "bool" = some false := by decide
theorem bs_int_int : bSub "int" "int" = some true := by decide
theorem bs_int_str : bSub "int" "str" = some false := by decide
theorem bs_int_list : bSub "int" "list" = some false := by decide
theorem bs_int_tuple : bSub "int" "tuple" = some false := by decide
theorem bs_int_dict : bSub "int" "dict" = some false := by decide
theorem bs_str_NoneType : bSub "str" "NoneType" = some false := by decide
theorem bs_str_bool : bSub "str" "bool" = some false := by decide
theorem bs_str_int : bSub "str" "int" = some false := by decide
theorem bs_str_str : bSub "str" "str" = some true := by decide
theorem bs_str_list : bSub "str" "list" = some false := by decide
theorem bs_str_tuple : bSub "str" "tuple" = some false := by decide
theorem bs_str_dict : bSub "str" "dict" = some false := by decide
theorem bs_list_NoneType : bSub "list" "NoneType" = some false := by decide
theorem bs_list_bool : bSub "list" "bool" = some false := by decide
theorem bs_list_int : bSub "list" "int" = some false := by decide
theorem bs_list_str : bSub "list" "str" = some false := by decide
theorem bs_list_list : bSub "list" "list" = some true := by decide
theorem bs_list_tuple : bSub "list" "tuple" = some false := by decide
theorem bs_list_dict : bSub "list" "dict" = some false := by decide
theorem bs_tuple_NoneType : bSub "tuple" "NoneType" = some false := by decide
theorem bs_tuple_bool : bSub "tuple" "bool" = some false := by decide
theorem bs_tuple_int : bSub "tuple" "int" = some false := by decide
theorem bs_tuple_str : bSub "tuple" "str" = some false := by decide
theorem bs_tuple_list : bSub "tuple" "list" = some false := by decide
theorem bs_tuple_tuple : bSub "tuple" "tuple" = some true := by decide
theorem bs_tuple_dict : bSub "tuple" "dict" = some false := by decide
theorem bs_dict_NoneType : bSub "dict" "NoneType" = some false := by decide
theorem bs_dict_bool : bSub "dict" "bool" = some false := by decide
theorem bs_dict_int : bSub "dict" "int" = some false := by decide
theorem bs_dict_str : bSub "dict" "str" = some false := by decide
theorem bs_dict_list : bSub "dict" "list" = some false := by decide
theorem bs_dict_tuple : bSub "dict" "tuple" = some false := by decide
theorem bs_dict_dict : bSub "dict" "dict" = some true := by decide

def isT (T : String) (c : D) : Option Bool := match c with
  | .ty n => bSub T n
  | .tup [.ty a, .ty b] => (match bSub T a, bSub T b with
    | some x, some y => some (x || y)
    | _, _ => none)
  | _ => none
theorem isT_ty {T n : String} : isT T (.ty n) = bSub T n := rfl
theorem isT_two {T a b : String} {x y : Bool} (h : bSub T a = some x) (h2 : bSub T b = some y) : isT T (.tup [.ty a, .ty b]) = some (x || y) := by
  unfold isT; simp only [h, h2]
theorem isT_ok {Γ : Pg} {T : String} {c : D} {b : Bool} (h : isT T c = some b) : isiK Γ (.b T) c = some b := by
  unfold isT at h
  split at h
  · exact h
  · rename_i x y
    split at h
    · rename_i x2 y2 h1 h2
      cases h
      show isiAny Γ (.b T) [.ty x, .ty y] = _
      unfold isiAny isiAny isiAny
      have e1 : isi1 Γ (.b T) (.ty x) = some x2 := h1
      have e2 : isi1 Γ (.b T) (.ty y) = some y2 := h2
      simp only [e1, e2, Bool.or_false]
    · cases h
  · cases h
section
variable {S : Store} {Q : D → Store → Prop} {Γ : Pg} {c : D} {b : Bool}
theorem PM_isiN (h : isT "NoneType" c = some b) : PM (fIsi Γ .non c) S Q ↔ Q (.bl b) S := PM_isi rfl (isT_ok h)
theorem PM_isiB {v : Bool} (h : isT "bool" c = some b) : PM (fIsi Γ (.bl v) c) S Q ↔ Q (.bl b) S := PM_isi rfl (isT_ok h)
theorem PM_isiI {v : Int} (h : isT "int" c = some b) : PM (fIsi Γ (.int v) c) S Q ↔ Q (.bl b) S := PM_isi rfl (isT_ok h)
theorem PM_isiS {v : Str} (h : isT "str" c = some b) : PM (fIsi Γ (.str v) c) S Q ↔ Q (.bl b) S := PM_isi rfl (isT_ok h)
theorem PM_isiT {v : List D} (h : isT "tuple" c = some b) : PM (fIsi Γ (.tup v) c) S Q ↔ Q (.bl b) S := PM_isi rfl (isT_ok h)
theorem PM_isiL {r : Nat} {xs : List D} (hr : S[r]? = some (.lst xs)) (h : isT "list" c = some b) : PM (fIsi Γ (.ref r) c) S Q ↔ Q (.bl b) S := PM_isi (by unfold tyD; simp only [hr]) (isT_ok h)
theorem isiK_b {T : String} {i : Nat} (hT : bTypes.contains T = true) (hi : i < Γ.cls.length) : isiK Γ (.b T) (.cls i) = some false := by
  show (if bTypes.contains T && decide (i < Γ.cls.length) then some false else none) = some false
  rw [hT, decide_eq_true hi]; rfl
theorem isiK_o {T : String} {i : Nat} (hT : bTypes.contains T = true) (hi : i < Γ.cls.length) : isiK Γ (.c i) (.ty T) = some false := by
  show (if bTypes.contains T && decide (i < Γ.cls.length) then some false else none) = some false
  rw [hT, decide_eq_true hi]; rfl
theorem isiK_c {i j : Nat} (hi : i < Γ.cls.length) (hj : j < Γ.cls.length) : isiK Γ (.c i) (.cls j) = some (i == j) := by
  show (if decide (i < Γ.cls.length) && decide (j < Γ.cls.length) then some (i == j) else none) = some (i == j)
  rw [decide_eq_true hi, decide_eq_true hj]; rfl
/-- a value that is no instance: whether it is of a class of the text -/
theorem PM_isiC {x : D} {T : String} {i : Nat} (hx : tyD S x = some (.b T)) (hT : bTypes.contains T = true) (hi : i < Γ.cls.length) : PM (fIsi Γ x (.cls i)) S Q ↔ Q (.bl false) S := PM_isi hx (isiK_b hT hi)
theorem PM_isiO {xs : List D} {i j : Nat} (hi : i < Γ.cls.length) (hj : j < Γ.cls.length) : PM (fIsi Γ (.obj i xs) (.cls j)) S Q ↔ Q (.bl (i == j)) S := PM_isi rfl (isiK_c hi hj)
theorem PM_isiOT {xs : List D} {i : Nat} {T : String} (hi : i < Γ.cls.length) (hT : bTypes.contains T = true) : PM (fIsi Γ (.obj i xs) (.ty T)) S Q ↔ Q (.bl false) S := PM_isi rfl (isiK_o hT hi)
end
theorem fn_eq {α : Type} {x : M α} {S S2 : Store} {v : α} (h : PM x S fun a S' => a = v ∧ S' = S2) : x S = some (.ok v S2) := by
  obtain ⟨a, S', e, rfl, rfl⟩ := h
  exact e
theorem sizeLine_big : 1000000 < sizeLine := by decide
end MP

/-! MPV: further ends: comprehensions that allocate, zip, methods, min by key, reversed slices. -/
namespace MP
open PySem PySem.Spec PyProof.Rows L2
section
variable {S : Store} {ρ : En} {Q : D → Store → Prop} {B : Bool → Store → Prop} {i j : Int} {Γ : Pg} {C : Calls}
/-- a comprehension by an invariant: items done, what was collected, the store -/
theorem PM_compI {own : List Nat} {it : Iv} {tg : Tg} {c : Tv} {e : Ev} (h : PM (it ρ) S fun itm S1 => ∃ I : Nat → List D → Store → Prop, I 0 [] (S1 ++ [.lst []]) ∧
    (∀ j d acc S, itm.items[j]? = some d → I j acc S → itm.src.ok S ∧ ∃ ρ1, tg.asg d (own.foldr (fun i ρ => ρ.set i none) ρ) = some ρ1 ∧ PM (c ρ1) S fun b S2 =>
      (b = true → PM (e ρ1) S2 fun y S3 => S3[S1.length]? = some (.lst acc) ∧ acc.length < sizeLine ∧ I (j + 1) (acc ++ [y]) (S3.set S1.length (.lst (acc ++ [y])))) ∧ (b = false → I (j + 1) acc S2)) ∧
    (∀ acc S, I itm.items.length acc S → itm.src.ok S ∧ Q (.ref S1.length) S)) : PM (eComp own it tg c e ρ) S Q := by
  have key : PM (it ρ) S fun itm S1 => PM (fun S => compGo S.length itm.src tg c e (own.foldr (fun i ρ => ρ.set i none) ρ) itm.items (S ++ [.lst []]) : M D) S1 Q := ?_
  · exact (PM_bind (x := it ρ) (f := fun itm => (fun S => compGo S.length itm.src tg c e (own.foldr (fun i ρ => ρ.set i none) ρ) itm.items (S ++ [.lst []]) : M D))).mpr key
  refine h.imp fun itm S1 ⟨I, h0, hs, hd⟩ => ?_
  have go : ∀ (items : List D) (I : Nat → List D → Store → Prop) (acc : List D) (S : Store), I 0 acc S →
      (∀ j d acc S, items[j]? = some d → I j acc S → itm.src.ok S ∧ ∃ ρ1, tg.asg d (own.foldr (fun i ρ => ρ.set i none) ρ) = some ρ1 ∧ PM (c ρ1) S fun b S2 =>
        (b = true → PM (e ρ1) S2 fun y S3 => S3[S1.length]? = some (.lst acc) ∧ acc.length < sizeLine ∧ I (j + 1) (acc ++ [y]) (S3.set S1.length (.lst (acc ++ [y])))) ∧ (b = false → I (j + 1) acc S2)) →
      (∀ acc S, I items.length acc S → itm.src.ok S ∧ Q (.ref S1.length) S) → ∃ a S', compGo S1.length itm.src tg c e (own.foldr (fun i ρ => ρ.set i none) ρ) items S = some (.ok a S') ∧ Q a S' := by
    intro items
    induction items with
    | nil =>
      intro I acc S h0 _ hd
      obtain ⟨h1, h2⟩ := hd acc S h0
      exact ⟨_, _, by unfold compGo; rw [if_pos h1], h2⟩
    | cons d ds ih =>
      intro I acc S h0 hs hd
      obtain ⟨h1, ρ1, h2, b, S2, e1, h3, h4⟩ := hs 0 d acc S rfl h0
      cases b with
      | false =>
        obtain ⟨a, S', e2, q⟩ := ih (fun j => I (j + 1)) acc S2 (h4 rfl) (fun j d' acc S hj hI => hs (j + 1) d' acc S (by simpa using hj) hI) (fun acc S hI => hd acc S (by simpa using hI))
        exact ⟨a, S', by unfold compGo; rw [if_pos h1, h2]; simp only [e1]; exact e2, q⟩
      | true =>
        obtain ⟨y, S3, e3, g1, g2, g3⟩ := h3 rfl
        obtain ⟨a, S', e2, q⟩ := ih (fun j => I (j + 1)) (acc ++ [y]) _ g3 (fun j d' acc S hj hI => hs (j + 1) d' acc S (by simpa using hj) hI) (fun acc S hI => hd acc S (by simpa using hI))
        exact ⟨a, S', by unfold compGo; rw [if_pos h1, h2]; simp only [e1, e3, g1, g2, if_true]; exact e2, q⟩
  exact go itm.items I [] _ h0 hs hd
theorem PM_zip {e f : Ev} {J : Itm → Store → Prop} : PM (iZip e f ρ) S J ↔ PM (e ρ) S fun x S1 => PM (f ρ) S1 fun y S2 => PM (seqM x) S2 fun p S3 => PM (seqM y) S3 fun q S4 => J ⟨zipL p.1 q.1, .two p.2 q.2⟩ S4 := by
  unfold iZip; simp only [PM_bind, PM_ret]
theorem zip_at {xs ys : List D} {n : Nat} {d : D} (h : (zipL xs ys)[n]? = some d) : ∃ x y, xs[n]? = some x ∧ ys[n]? = some y ∧ d = .tup [x, y] := zipL_get h
theorem PM_lstT {xs : List D} : PM (fLst (.tup xs)) S Q ↔ Q (.ref S.length) (S ++ [.lst xs]) := PM_of rfl
theorem PM_lstL {r : Nat} {xs : List D} (h : S[r]? = some (.lst xs)) : PM (fLst (.ref r)) S Q ↔ Q (.ref S.length) (S ++ [.lst xs]) := by
  show PM (M.bind (getL r) fun xs => newL xs) S Q ↔ _
  rw [PM_bind, PM_getL h, PM_newL]
theorem PM_revT {xs : List D} : PM (oRev (.tup xs)) S Q ↔ Q (.tup xs.reverse) S := PM_of rfl
theorem PM_revL {r : Nat} {xs : List D} (h : S[r]? = some (.lst xs)) : PM (oRev (.ref r)) S Q ↔ Q (.ref S.length) (S ++ [.lst xs.reverse]) := by
  show PM (M.bind (getL r) fun xs => newL xs.reverse) S Q ↔ _
  rw [PM_bind, PM_getL h, PM_newL]
theorem PM_lstRg {e : Ev} : PM (eLstRg e ρ) S Q ↔ PM (e ρ) S fun x S1 => ∃ j, x = .int j ∧ RgOk 0 j ∧ Q (.ref S1.length) (S1 ++ [.lst (rngL 0 j)]) := by
  unfold eLstRg
  rw [PM_bind]
  constructor <;> intro h <;> refine h.imp fun x S1 q => ?_
  · cases x with
    | int j => exact ⟨j, rfl, by rw [PM_guard, PM_newL] at q; exact q⟩
    | _ => exact (PM_stuck.mp q).elim
  · obtain ⟨j, rfl, q⟩ := q
    rw [PM_guard, PM_newL]; exact q
theorem PM_mulT {xs : List D} : PM (oMul (.tup xs) (.int i)) S Q ↔ (xs ≠ [] ∧ 1 ≤ i ∧ i ≤ 1000 ∧ xs.length ≤ 1000) ∧ Q (.tup (List.replicate i.toNat xs).flatten) S := by
  show PM (M.guard (xs ≠ [] ∧ 1 ≤ i ∧ i ≤ 1000 ∧ xs.length ≤ 1000) (.ret _)) S Q ↔ _
  rw [PM_guard, PM_ret]
theorem PM_addT {xs ys : List D} : PM (oAdd (.tup xs) (.tup ys)) S Q ↔ xs.length + ys.length ≤ sizeLine ∧ Q (.tup (xs ++ ys)) S := by
  show PM (M.guard (xs.length + ys.length ≤ sizeLine) (.ret _)) S Q ↔ _
  rw [PM_guard, PM_ret]
theorem PM_fldR {r c : Nat} {fs : List (Str × D)} {f : Str} {d : D} (h : S[r]? = some (.obj c fs)) (hf : f ∈ Γ.fields c) (hd : fs.lookup f = some d) : PM (oFld Γ f (.ref r)) S Q ↔ Q d S := PM_of (by unfold oFld; simp only [h, hf, if_true, hd])
theorem PM_meth {m : Str} {o : Ev} {a : Av} : PM (eMeth Γ C m o a ρ) S Q ↔ PM (o ρ) S fun x S1 => PM (clsM m x) S1 fun c S2 => ∃ p, Γ.meth c m = some p ∧ PM (a ρ) S2 fun ds S3 => ds.length + 1 = p.2 ∧ PM (C.fn p.1 (x :: ds)) S3 Q := by
  unfold eMeth
  simp only [PM_bind]
  constructor <;> intro h <;> refine h.imp fun x S1 h => h.imp fun c S2 q => ?_
  · cases e : Γ.meth c m with
    | none => rw [e] at q; exact (PM_stuck.mp q).elim
    | some p =>
      rw [e] at q
      exact ⟨p, rfl, by simp only [PM_bind, PM_guard] at q; exact q⟩
  · obtain ⟨p, e, q⟩ := q
    rw [e]
    simp only [PM_bind, PM_guard]; exact q
theorem PM_clsR {U : Nat → Store → Prop} {r c : Nat} {fs : List (Str × D)} {m : Str} (h : S[r]? = some (.obj c fs)) (hl : fs.lookup m = none) : PM (clsM m (.ref r)) S U ↔ U c S := PM_of (by unfold clsM; simp only [h, hl])
theorem PM_clsO {U : Nat → Store → Prop} {c : Nat} {xs : List D} {m : Str} : PM (clsM m (.obj c xs)) S U ↔ U c S := PM_of rfl
theorem min_ex (k : Int → Int) : ∀ zs : List Int, zs ≠ [] → ∃ z ∈ zs, ∀ z' ∈ zs, k z ≤ k z'
  | [], h => absurd rfl h
  | [z], _ => ⟨z, by simp, fun z' h => by have : z' = z := by simpa using h
                                          rw [this]; exact Int.le_refl _⟩
  | z :: y :: r, _ => by
    obtain ⟨w, hw, hb⟩ := min_ex k (y :: r) (by simp)
    by_cases h : k z ≤ k w
    · exact ⟨z, by simp, fun z' hz => by
        rcases List.mem_cons.mp hz with rfl | hz
        · exact Int.le_refl _
        · exact Int.le_trans h (hb z' hz)⟩
    · exact ⟨w, List.mem_cons_of_mem _ hw, fun z' hz => by
        rcases List.mem_cons.mp hz with rfl | hz
        · omega
        · exact hb z' hz⟩
theorem PM_min {js : List Nat} {n : Nat} {fb fe : Ev} (h : PM (fe ρ) S fun d S1 => ∃ (r : Nat) (zs : List Int) (k : Int → Int), d = .ref r ∧ S1[r]? = some (.lst (zs.map .int)) ∧ zs ≠ [] ∧
    (∀ z ∈ zs, fb (startE n [.int z] (js.map (slotE ρ))) S1 = some (.ok (.int (k z)) S1)) ∧ ∀ z ∈ zs, (∀ z' ∈ zs, k z ≤ k z') → Q (.int z) S1) : PM (eMin js n fb fe ρ) S Q := by
  unfold eMin
  rw [PM_bind]
  refine h.imp fun d S1 hh => ?_
  obtain ⟨r, zs, k, rfl, hr, hne, hk, hq⟩ := hh
  have kz : ∀ z ∈ zs, keyZ (fun d' => fb (startE n [d'] (js.map (slotE ρ)))) S1 (.int z) = k z := fun z hz => by
    show (match fb (startE n [.int z] (js.map (slotE ρ))) S1 with
      | some (.ok (.int k) _) => k
      | _ => (0 : Int)) = k z
    rw [hk z hz]
  obtain ⟨z0, hz0, hb0⟩ := min_ex k zs hne
  have ok : ∀ d ∈ zs.map D.int, keyOk (fun d' => fb (startE n [d'] (js.map (slotE ρ)))) S1 d := fun d hd => by
    obtain ⟨z, hz, rfl⟩ := List.mem_map.mp hd
    exact ⟨z, k z, rfl, hk z hz⟩
  cases hf : minFind (keyZ (fun d' => fb (startE n [d'] (js.map (slotE ρ)))) S1) (zs.map D.int) with
  | none =>
    unfold minFind at hf
    rw [List.find?_eq_none] at hf
    refine absurd ?_ (hf (.int z0) (List.mem_map.mpr ⟨z0, hz0, rfl⟩))
    rw [List.all_eq_true]
    intro d hd
    obtain ⟨z, hz, rfl⟩ := List.mem_map.mp hd
    rw [kz z0 hz0, kz z hz]
    exact decide_eq_true (hb0 z hz)
  | some d =>
    have hm := List.mem_of_find?_eq_some hf
    have hp := List.find?_some hf
    obtain ⟨z, hz, rfl⟩ := List.mem_map.mp hm
    refine (PM_of (a := .int z) (S' := S1) ?_).mpr (hq z hz fun z' hz' => ?_)
    · unfold mMin
      simp only [hr]
      rw [if_pos ok, hf]
    · have := of_decide_eq_true (List.all_eq_true.mp hp (.int z') (List.mem_map.mpr ⟨z', hz', rfl⟩))
      rw [kz z hz, kz z' hz'] at this
      exact this
theorem PM_anyL {r : Nat} {xs : List D} {bs : List Bool} (h : S[r]? = some (.lst xs)) (hb : asBls xs = some bs) : PM (fAny (.ref r)) S Q ↔ Q (.bl (bs.any id)) S := by
  show PM (M.bind (getL r) fun xs => .bind (optM (asBls xs)) fun bs => .ret (.bl (bs.any id))) S Q ↔ _
  rw [PM_bind, PM_getL h, PM_bind, hb]
  show PM (M.ret bs) S _ ↔ _
  rw [PM_ret, PM_ret]
theorem PM_allL {r : Nat} {xs : List D} {bs : List Bool} (h : S[r]? = some (.lst xs)) (hb : asBls xs = some bs) : PM (fAll (.ref r)) S Q ↔ Q (.bl (bs.all id)) S := by
  show PM (M.bind (getL r) fun xs => .bind (optM (asBls xs)) fun bs => .ret (.bl (bs.all id))) S Q ↔ _
  rw [PM_bind, PM_getL h, PM_bind, hb]
  show PM (M.ret bs) S _ ↔ _
  rw [PM_ret, PM_ret]
theorem PM_sumL {r : Nat} {xs : List D} {is : List Int} (h : S[r]? = some (.lst xs)) (hb : asInts xs = some is) : PM (fSum (.ref r)) S Q ↔ Q (.int is.sum) S := by
  show PM (M.bind (getL r) fun xs => .bind (optM (asInts xs)) fun bs => .ret (.int bs.sum)) S Q ↔ _
  rw [PM_bind, PM_getL h, PM_bind, hb]
  show PM (M.ret is) S _ ↔ _
  rw [PM_ret, PM_ret]
theorem asInts_int : ∀ zs : List Int, asInts (zs.map .int) = some zs
  | [] => rfl
  | z :: zs => by rw [List.map_cons]; unfold asInts; rw [asInts_int zs]
theorem asBls_int : ∀ zs : List Int, asBls (zs.map .int) = some (zs.map (· != 0))
  | [] => rfl
  | z :: zs => by rw [List.map_cons]; unfold asBls; rw [asBls_int zs]; rfl
theorem asBls_bl : ∀ bs : List Bool, asBls (bs.map .bl) = some bs
  | [] => rfl
  | b :: bs => by rw [List.map_cons]; unfold asBls; rw [asBls_bl bs]; rfl
end
end MP

namespace MP
open PySem PySem.Spec PyProof.Rows L2
/-! ### the text as the interpreter has it (printed by gen.py) -/
abbrev PW : Program := PySem.Challenge.pw_sumsmade_k76_by_a_number_bent
def top (i : Nat) : Stmt := PW.main.body.getD i (.Pass ⟨0, 0, 0, 0⟩)
def sub (i j : Nat) : Stmt := match top i with
  | .ClassDef _ _ _ body _ _ _ _ _ _ _ => body.getD j (.Pass ⟨0, 0, 0, 0⟩)
  | s => s
def Γ : Pg where
  gl := [(("ByRows" : Str), GB.cls 6), (("List" : Str), GB.cls 0), (("MOST_BY" : Str), GB.int (1000000)), (("MOST_LIST" : Str), GB.int (8)), (("MOST_WIDTH" : Str), GB.int (12)), (("Made" : Str), GB.cls 2), (("MadeBy" : Str), GB.cls 4), (("NotMade" : Str), GB.cls 3), (("NotMadeBy" : Str), GB.cls 5), (("Stepper" : Str), GB.cls 1), (("_law_are_left" : Str), GB.fn 64), (("_law_draw" : Str), GB.fn 54), (("_law_drawn_row" : Str), GB.fn 60), (("_law_drawn_rows" : Str), GB.fn 61), (("_law_is" : Str), GB.fn 57), (("_law_is_row" : Str), GB.fn 62), (("_law_multiple" : Str), GB.fn 63), (("_law_pen" : Str), GB.fn 53), (("_law_pick" : Str), GB.fn 55), (("_law_shuffled" : Str), GB.fn 56), (("_law_sum" : Str), GB.fn 59), (("_law_whole" : Str), GB.fn 58), (("_wall" : Str), GB.fn 24), (("abs" : Str), GB.free), (("all" : Str), GB.free), (("any" : Str), GB.free), (("are_leftovers" : Str), GB.fn 48), (("are_rows" : Str), GB.fn 31), (("are_same_by" : Str), GB.fn 49), (("as_table" : Str), GB.fn 36), (("as_tuples" : Str), GB.fn 27), (("bool" : Str), GB.free), (("does_divide" : Str), GB.fn 51), (("enumerate" : Str), GB.free), (("fractions_by" : Str), GB.fn 41), (("greatest_divisor" : Str), GB.fn 40), (("int" : Str), GB.free), (("is_grid" : Str), GB.fn 37), (("is_index" : Str), GB.fn 28), (("is_number" : Str), GB.fn 26), (("is_row" : Str), GB.fn 29), (("is_row_of" : Str), GB.fn 30), (("is_whole" : Str), GB.fn 25), (("isinstance" : Str), GB.free), (("law" : Str), GB.fn 65), (("len" : Str), GB.free), (("list" : Str), GB.free), (("made_by" : Str), GB.fn 42), (("made_by_holds" : Str), GB.fn 50), (("made_by_or_not" : Str), GB.fn 47), (("made_or_not_by" : Str), GB.fn 46), (("min" : Str), GB.free), (("need_by" : Str), GB.fn 44), (("need_list" : Str), GB.fn 32), (("need_question" : Str), GB.fn 45), (("need_row" : Str), GB.fn 38), (("not_made_by_holds" : Str), GB.fn 52), (("numbers_by" : Str), GB.fn 39), (("range" : Str), GB.free), (("stepper_of" : Str), GB.fn 35), (("still_rows" : Str), GB.fn 34), (("str" : Str), GB.free), (("sum" : Str), GB.free), (("sum_of" : Str), GB.fn 33), (("tuple" : Str), GB.free), (("unit_row" : Str), GB.fn 43), (("zip" : Str), GB.free)]
  cls := [⟨["width", "rows"], true, some 0, [(("__eq__" : Str), 1), (("__ne__" : Str), 2)]⟩, ⟨["rows", "there", "leading"], false, some 3, [(("cleared" : Str), 4), (("places" : Str), 5), (("take" : Str), 6), (("exchange" : Str), 7), (("form" : Str), 8), (("rest" : Str), 9), (("lowered" : Str), 10)]⟩, ⟨["numbers"], true, some 11, [(("__eq__" : Str), 12), (("__ne__" : Str), 13)]⟩, ⟨["tops", "bottom"], true, some 14, [(("__eq__" : Str), 15), (("__ne__" : Str), 16)]⟩, ⟨["numbers"], true, some 17, [(("__eq__" : Str), 18), (("__ne__" : Str), 19)]⟩, ⟨["tops"], true, some 20, [(("__eq__" : Str), 21), (("__ne__" : Str), 22)]⟩, ⟨["rows", "width"], true, some 23, []⟩]
  fns := [⟨["self", "width", "rows"], ["self", "width", "rows", "known"]⟩,
    ⟨["self", "other"], ["self", "other"]⟩,
    ⟨["self", "other"], ["self", "other"]⟩,
    ⟨["self", "rows", "width"], ["self", "rows", "width", "column", "row"]⟩,
    ⟨["self", "column"], ["self", "column", "step", "places", "least", "at", "one"]⟩,
    ⟨["self", "column", "step"], ["self", "column", "step", "at"]⟩,
    ⟨["self", "at", "other", "number"], ["self", "at", "other", "number", "one", "two"]⟩,
    ⟨["self", "at", "other"], ["self", "at", "other"]⟩,
    ⟨["self"], ["self"]⟩,
    ⟨["self"], ["self"]⟩,
    ⟨["self", "row"], ["self", "row", "numbers", "left", "step", "column", "own", "number", "one", "other"]⟩,
    ⟨["self", "numbers"], ["self", "numbers"]⟩,
    ⟨["self", "other"], ["self", "other"]⟩,
    ⟨["self", "other"], ["self", "other"]⟩,
    ⟨["self", "tops", "bottom"], ["self", "tops", "bottom"]⟩,
    ⟨["self", "other"], ["self", "other"]⟩,
    ⟨["self", "other"], ["self", "other"]⟩,
    ⟨["self", "numbers"], ["self", "numbers"]⟩,
    ⟨["self", "other"], ["self", "other"]⟩,
    ⟨["self", "other"], ["self", "other"]⟩,
    ⟨["self", "tops"], ["self", "tops"]⟩,
    ⟨["self", "other"], ["self", "other"]⟩,
    ⟨["self", "other"], ["self", "other"]⟩,
    ⟨["self", "rows", "width", "by"], ["self", "rows", "width", "by", "at"]⟩,
    ⟨["k"], ["k"]⟩,
    ⟨["value"], ["value"]⟩,
    ⟨["value"], ["value"]⟩,
    ⟨["value"], ["value", "line", "done", "source", "at", "found"]⟩,
    ⟨["value", "many"], ["value", "many"]⟩,
    ⟨["value"], ["value", "one"]⟩,
    ⟨["value", "width"], ["value", "width"]⟩,
    ⟨["value", "width"], ["value", "width", "row"]⟩,
    ⟨["value"], ["value"]⟩,
    ⟨["numbers", "rows", "width"], ["numbers", "rows", "width", "found", "number", "row", "one", "other"]⟩,
    ⟨["many"], ["many", "at", "place"]⟩,
    ⟨["some"], ["some"]⟩,
    ⟨["rows"], ["rows", "row"]⟩,
    ⟨["value", "many", "width"], ["value", "many", "width", "row", "one"]⟩,
    ⟨["some", "row"], ["some", "row", "known"]⟩,
    ⟨["stepper", "picked", "many"], ["stepper", "picked", "many"]⟩,
    ⟨["one", "other"], ["one", "other"]⟩,
    ⟨["stepper", "left", "width"], ["stepper", "left", "width", "column", "lead", "bottom", "tops", "ahead", "step", "own", "at", "told", "common", "top", "one"]⟩,
    ⟨["some", "row"], ["some", "row", "stepper", "picked", "left", "tops", "bottom"]⟩,
    ⟨["width", "at", "number"], ["width", "at", "number", "place"]⟩,
    ⟨["by"], ["by"]⟩,
    ⟨["some", "row", "by"], ["some", "row", "by", "known"]⟩,
    ⟨["rows", "width", "row", "by"], ["rows", "width", "row", "by", "told", "number", "top"]⟩,
    ⟨["some", "row", "by"], ["some", "row", "by", "known"]⟩,
    ⟨["value", "many", "by"], ["value", "many", "by", "one"]⟩,
    ⟨["one", "other", "by"], ["one", "other", "by", "here", "there"]⟩,
    ⟨["some", "row", "by", "value"], ["some", "row", "by", "value", "known"]⟩,
    ⟨["tops", "row", "by"], ["tops", "row", "by", "top", "number"]⟩,
    ⟨["some", "row", "by", "value"], ["some", "row", "by", "value", "known", "own"]⟩,
    ⟨["script"], ["script", "fold", "cell"]⟩,
    ⟨["pen", "many"], ["pen", "many", "cell", "digit", "blend"]⟩,
    ⟨["pen", "some"], ["pen", "some"]⟩,
    ⟨["pen", "some"], ["pen", "some", "left", "found", "lap"]⟩,
    ⟨["told", "due"], ["told", "due", "at"]⟩,
    ⟨["value"], ["value"]⟩,
    ⟨["numbers", "rows", "width"], ["numbers", "rows", "width", "found", "number", "row", "one", "other"]⟩,
    ⟨["pen", "width", "size"], ["pen", "width", "size", "at"]⟩,
    ⟨["pen", "width", "most", "size"], ["pen", "width", "most", "size", "rows", "lap", "row"]⟩,
    ⟨["value", "width"], ["value", "width", "one"]⟩,
    ⟨["tops", "row", "bottom"], ["tops", "row", "bottom", "top", "one"]⟩,
    ⟨["value", "many", "by"], ["value", "many", "by", "one"]⟩,
    ⟨["script"], ["script", "pen", "lap", "width", "by", "rows", "some", "row", "told", "turn", "own", "every", "value", "good", "one", "two", "line", "step", "other", "at"]⟩]
noncomputable def b_List_init (C : Calls) : Sv :=
    (sSeq (sIf (tOr (tNot (tV (eCall C 26 1 (aCons (eSlot 1) aNil)))) (tNot (tChn (eC (.int 1)) (.more cLe (eSlot 1) (.last cLe (eC (.int (8)))))))) sStuck sNx)
    (sSeq (sAsg (gOne 3) (eIf (tV (eOp (fIsi Γ) (eSlot 2) (eC (.ty "list")))) (eUn fTup (eSlot 2)) (eSlot 2)))
    (sSeq (sIf (tNot (tV (eCall C 31 2 (aCons (eSlot 3) (aCons (eSlot 1) aNil))))) sStuck sNx)
    (sSeq (sAsg (gFldS Γ "width" (eSlot 0)) (eSlot 1))
    (sAsg (gFldS Γ "rows" (eSlot 0)) (eSlot 3))))))
noncomputable def b_List_eq (C : Calls) : Sv :=
    (sRet (eAnd (eOp (fIsi Γ) (eSlot 1) (eC (.cls 0))) (eT (tCmp (cOwn Γ C "__eq__" cEq) (eTup (aCons (eUn (oFld Γ "width") (eSlot 0)) (aCons (eUn (oFld Γ "rows") (eSlot 0)) aNil))) (eTup (aCons (eUn (oFld Γ "width") (eSlot 1)) (aCons (eUn (oFld Γ "rows") (eSlot 1)) aNil)))))))
noncomputable def b_List_ne (C : Calls) : Sv :=
    (sRet (eT (tNot (tV (eT (tCmp (cOwn Γ C "__eq__" cEq) (eSlot 0) (eSlot 1)))))))
noncomputable def b_Stepper_init (C : Calls) : Sv :=
    (sSeq (sAsg (gFldS Γ "rows" (eSlot 0)) (eComp [4] (iSeq (eSlot 1)) (.one 4) tTrue (eUn fLst (eSlot 4))))
    (sSeq (sAsg (gFldS Γ "there" (eSlot 0)) (eCall C 34 1 (aCons (eUn fLen (eSlot 1)) aNil)))
    (sSeq (sAsg (gFldS Γ "leading" (eSlot 0)) (eLst aNil))
    (sFor (iRng1 (eSlot 2)) (.one 3) (sIf (tV (eMeth Γ C "cleared" (eSlot 0) (aCons (eSlot 3) aNil))) (sDrop (eM "list" mAppend (eUn (oFld Γ "leading") (eSlot 0)) (aCons (eSlot 3) aNil))) sNx)))))
noncomputable def b_Stepper_cleared (C : Calls) : Sv :=
    (sSeq (sAsg (gOne 2) (eUn fLen (eUn (oFld Γ "leading") (eSlot 0))))
    (sSeq (sAsg (gOne 3) (eMeth Γ C "places" (eSlot 0) (aCons (eSlot 1) (aCons (eSlot 2) aNil))))
    (sSeq (sWhile (tCmp cGt (eUn fLen (eSlot 3)) (eC (.int 1))) (sSeq (sAsg (gOne 4) (eMin [1, 0] 3 (eUn fAbs (eOp oIx (eOp oIx (eUn (oFld Γ "rows") (eSlot 2)) (eSlot 0)) (eSlot 1))) (eSlot 3)))
    (sSeq (sFor (iSeq (eSlot 3)) (.one 5) (sIf (tCmp (cOwn Γ C "__ne__" cNe) (eSlot 5) (eSlot 4)) (sDrop (eMeth Γ C "take" (eSlot 0) (aCons (eSlot 5) (aCons (eSlot 4) (aCons (eOp oFdiv (eOp oIx (eOp oIx (eUn (oFld Γ "rows") (eSlot 0)) (eSlot 5)) (eSlot 1)) (eOp oIx (eOp oIx (eUn (oFld Γ "rows") (eSlot 0)) (eSlot 4)) (eSlot 1))) aNil))))) sNx))
    (sAsg (gOne 3) (eMeth Γ C "places" (eSlot 0) (aCons (eSlot 1) (aCons (eSlot 2) aNil)))))))
    (sSeq (sIf (tNot (tV (eSlot 3))) (sRet (eC (.bl false))) sNx)
    (sSeq (sDrop (eMeth Γ C "exchange" (eSlot 0) (aCons (eSlot 2) (aCons (eOp oIx (eSlot 3) (eC (.int 0))) aNil))))
    (sSeq (sIf (tCmp cLt (eOp oIx (eOp oIx (eUn (oFld Γ "rows") (eSlot 0)) (eSlot 2)) (eSlot 1)) (eC (.int 0))) (sSeq (sAsg (gSubS (eUn (oFld Γ "rows") (eSlot 0)) (eSlot 2)) (eComp [6] (iSeq (eOp oIx (eUn (oFld Γ "rows") (eSlot 0)) (eSlot 2))) (.one 6) tTrue (eUn oNeg (eSlot 6))))
    (sAsg (gSubS (eUn (oFld Γ "there") (eSlot 0)) (eSlot 2)) (eComp [6] (iSeq (eOp oIx (eUn (oFld Γ "there") (eSlot 0)) (eSlot 2))) (.one 6) tTrue (eUn oNeg (eSlot 6))))) sNx)
    (sSeq (sFor (iRng1 (eSlot 2)) (.one 5) (sDrop (eMeth Γ C "take" (eSlot 0) (aCons (eSlot 5) (aCons (eSlot 2) (aCons (eOp oFdiv (eOp oIx (eOp oIx (eUn (oFld Γ "rows") (eSlot 0)) (eSlot 5)) (eSlot 1)) (eOp oIx (eOp oIx (eUn (oFld Γ "rows") (eSlot 0)) (eSlot 2)) (eSlot 1))) aNil))))))
    (sRet (eC (.bl true))))))))))
noncomputable def b_Stepper_places (C : Calls) : Sv :=
    (sRet (eComp [3] (iRng2 (eSlot 2) (eUn fLen (eUn (oFld Γ "rows") (eSlot 0)))) (.one 3) (tCmp (cOwn Γ C "__ne__" cNe) (eOp oIx (eOp oIx (eUn (oFld Γ "rows") (eSlot 0)) (eSlot 3)) (eSlot 1)) (eC (.int 0))) (eSlot 3)))
noncomputable def b_Stepper_take (C : Calls) : Sv :=
    (sSeq (sAsg (gSubS (eUn (oFld Γ "rows") (eSlot 0)) (eSlot 1)) (eComp [4, 5] (iZip (eOp oIx (eUn (oFld Γ "rows") (eSlot 0)) (eSlot 1)) (eOp oIx (eUn (oFld Γ "rows") (eSlot 0)) (eSlot 2))) (.many [4, 5]) tTrue (eOp oSub (eSlot 4) (eOp oMul (eSlot 3) (eSlot 5)))))
    (sAsg (gSubS (eUn (oFld Γ "there") (eSlot 0)) (eSlot 1)) (eComp [4, 5] (iZip (eOp oIx (eUn (oFld Γ "there") (eSlot 0)) (eSlot 1)) (eOp oIx (eUn (oFld Γ "there") (eSlot 0)) (eSlot 2))) (.many [4, 5]) tTrue (eOp oSub (eSlot 4) (eOp oMul (eSlot 3) (eSlot 5))))))
noncomputable def b_Stepper_exchange (C : Calls) : Sv :=
    (sSeq (sAsg (gTupG [(gSubS (eUn (oFld Γ "rows") (eSlot 0)) (eSlot 1)), (gSubS (eUn (oFld Γ "rows") (eSlot 0)) (eSlot 2))]) (eTup (aCons (eOp oIx (eUn (oFld Γ "rows") (eSlot 0)) (eSlot 2)) (aCons (eOp oIx (eUn (oFld Γ "rows") (eSlot 0)) (eSlot 1)) aNil))))
    (sAsg (gTupG [(gSubS (eUn (oFld Γ "there") (eSlot 0)) (eSlot 1)), (gSubS (eUn (oFld Γ "there") (eSlot 0)) (eSlot 2))]) (eTup (aCons (eOp oIx (eUn (oFld Γ "there") (eSlot 0)) (eSlot 2)) (aCons (eOp oIx (eUn (oFld Γ "there") (eSlot 0)) (eSlot 1)) aNil)))))
noncomputable def b_Stepper_form (C : Calls) : Sv :=
    (sRet (eCut (eUn (oFld Γ "rows") (eSlot 0)) pNone (pSome (eUn fLen (eUn (oFld Γ "leading") (eSlot 0))))))
noncomputable def b_Stepper_rest (C : Calls) : Sv :=
    (sDrop (eCall C 24 1 (aCons (eC (.int 0)) aNil)))
noncomputable def b_Stepper_lowered (C : Calls) : Sv :=
    (sSeq (sPar [2, 3] (aCons (eLst aNil) (aCons (eUn fLst (eSlot 1)) aNil)))
    (sSeq (sFor (iEnum' (eUn (oFld Γ "leading") (eSlot 0))) (.many [4, 5]) (sSeq (sAsg (gOne 6) (eOp oIx (eUn (oFld Γ "rows") (eSlot 0)) (eSlot 4)))
    (sSeq (sAsg (gOne 7) (eOp oFdiv (eOp oIx (eSlot 3) (eSlot 5)) (eOp oIx (eSlot 6) (eSlot 5))))
    (sSeq (sDrop (eM "list" mAppend (eSlot 2) (aCons (eSlot 7) aNil)))
    (sAsg (gOne 3) (eComp [8, 9] (iZip (eSlot 3) (eSlot 6)) (.many [8, 9]) tTrue (eOp oSub (eSlot 8) (eOp oMul (eSlot 7) (eSlot 9)))))))))
    (sRet (eTup (aCons (eSlot 2) (aCons (eSlot 3) aNil))))))
noncomputable def b_Made_init (C : Calls) : Sv :=
    (sAsg (gFldS Γ "numbers" (eSlot 0)) (eCall C 27 1 (aCons (eSlot 1) aNil)))
noncomputable def b_Made_eq (C : Calls) : Sv :=
    (sRet (eAnd (eOp (fIsi Γ) (eSlot 1) (eC (.cls 2))) (eT (tCmp (cOwn Γ C "__eq__" cEq) (eUn (oFld Γ "numbers") (eSlot 0)) (eUn (oFld Γ "numbers") (eSlot 1))))))
noncomputable def b_Made_ne (C : Calls) : Sv :=
    (sRet (eT (tNot (tV (eT (tCmp (cOwn Γ C "__eq__" cEq) (eSlot 0) (eSlot 1)))))))
noncomputable def b_NotMade_init (C : Calls) : Sv :=
    (sSeq (sAsg (gFldS Γ "tops" (eSlot 0)) (eCall C 27 1 (aCons (eSlot 1) aNil)))
    (sAsg (gFldS Γ "bottom" (eSlot 0)) (eCall C 27 1 (aCons (eSlot 2) aNil))))
noncomputable def b_NotMade_eq (C : Calls) : Sv :=
    (sRet (eAnd (eOp (fIsi Γ) (eSlot 1) (eC (.cls 3))) (eT (tCmp (cOwn Γ C "__eq__" cEq) (eTup (aCons (eUn (oFld Γ "tops") (eSlot 0)) (aCons (eUn (oFld Γ "bottom") (eSlot 0)) aNil))) (eTup (aCons (eUn (oFld Γ "tops") (eSlot 1)) (aCons (eUn (oFld Γ "bottom") (eSlot 1)) aNil)))))))
noncomputable def b_NotMade_ne (C : Calls) : Sv :=
    (sRet (eT (tNot (tV (eT (tCmp (cOwn Γ C "__eq__" cEq) (eSlot 0) (eSlot 1)))))))
noncomputable def b_MadeBy_init (C : Calls) : Sv :=
    (sAsg (gFldS Γ "numbers" (eSlot 0)) (eCall C 27 1 (aCons (eSlot 1) aNil)))
noncomputable def b_MadeBy_eq (C : Calls) : Sv :=
    (sRet (eAnd (eOp (fIsi Γ) (eSlot 1) (eC (.cls 4))) (eT (tCmp (cOwn Γ C "__eq__" cEq) (eUn (oFld Γ "numbers") (eSlot 0)) (eUn (oFld Γ "numbers") (eSlot 1))))))
noncomputable def b_MadeBy_ne (C : Calls) : Sv :=
    (sRet (eT (tNot (tV (eT (tCmp (cOwn Γ C "__eq__" cEq) (eSlot 0) (eSlot 1)))))))
noncomputable def b_NotMadeBy_init (C : Calls) : Sv :=
    (sAsg (gFldS Γ "tops" (eSlot 0)) (eCall C 27 1 (aCons (eSlot 1) aNil)))
noncomputable def b_NotMadeBy_eq (C : Calls) : Sv :=
    (sRet (eAnd (eOp (fIsi Γ) (eSlot 1) (eC (.cls 5))) (eT (tCmp (cOwn Γ C "__eq__" cEq) (eUn (oFld Γ "tops") (eSlot 0)) (eUn (oFld Γ "tops") (eSlot 1))))))
noncomputable def b_NotMadeBy_ne (C : Calls) : Sv :=
    (sRet (eT (tNot (tV (eT (tCmp (cOwn Γ C "__eq__" cEq) (eSlot 0) (eSlot 1)))))))
noncomputable def b_ByRows_init (C : Calls) : Sv :=
    (sSeq (sAsg (gFldS Γ "rows" (eSlot 0)) (eOp oAdd (eCall C 36 1 (aCons (eSlot 1) aNil)) (eDrop (eUn fTup (eComp [4] (iRng1 (eSlot 2)) (.one 4) tTrue (eCall C 43 3 (aCons (eSlot 2) (aCons (eSlot 4) (aCons (eSlot 3) aNil)))))))))
    (sAsg (gFldS Γ "width" (eSlot 0)) (eSlot 2)))
noncomputable def b__wall (C : Calls) : Sv :=
    (sWhile (tV (eC (.bl true))) sNx)
noncomputable def b_is_whole (C : Calls) : Sv :=
    (sRet (eAnd (eOp (fIsi Γ) (eSlot 0) (eC (.ty "int"))) (eT (tNot (tV (eOp (fIsi Γ) (eSlot 0) (eC (.ty "bool"))))))))
noncomputable def b_is_number (C : Calls) : Sv :=
    (sRet (eAnd (eCall C 25 1 (aCons (eSlot 0) aNil)) (eT (tCmp cGe (eSlot 0) (eC (.int 0))))))
noncomputable def b_as_tuples (C : Calls) : Sv :=
    (sSeq (sIf (tNot (tV (eOp (fIsi Γ) (eSlot 0) (eTup (aCons (eC (.ty "list")) (aCons (eC (.ty "tuple")) aNil)))))) (sRet (eSlot 0)) sNx)
    (sSeq (sPar [1, 2] (aCons (eLst (aCons (eLst (aCons (eSlot 0) (aCons (eC (.int 0)) (aCons (eLst aNil) aNil)))) aNil)) (aCons (eC .non) aNil)))
    (sSeq (sWhile (tV (eSlot 1)) (sSeq (sAsg (gTupG [(gOne 3), (gOne 4), (gOne 5)]) (eOp oIx (eSlot 1) (eUn oNeg (eC (.int 1)))))
    (sIf (tCmp (cOwn Γ C "__eq__" cEq) (eSlot 4) (eUn fLen (eSlot 3))) (sSeq (sDrop (eM "list" mPop (eSlot 1) aNil))
    (sSeq (sAsg (gOne 2) (eUn fTup (eSlot 5)))
    (sIf (tV (eSlot 1)) (sDrop (eM "list" mAppend (eOp oIx (eOp oIx (eSlot 1) (eUn oNeg (eC (.int 1)))) (eC (.int 2))) (aCons (eSlot 2) aNil))) sNx))) (sIf (tV (eOp (fIsi Γ) (eOp oIx (eSlot 3) (eSlot 4)) (eTup (aCons (eC (.ty "list")) (aCons (eC (.ty "tuple")) aNil))))) (sSeq (sAsg (gSubS (eOp oIx (eSlot 1) (eUn oNeg (eC (.int 1)))) (eC (.int 1))) (eOp oAdd (eSlot 4) (eC (.int 1))))
    (sDrop (eM "list" mAppend (eSlot 1) (aCons (eLst (aCons (eOp oIx (eSlot 3) (eSlot 4)) (aCons (eC (.int 0)) (aCons (eLst aNil) aNil)))) aNil)))) (sSeq (sAsg (gSubS (eOp oIx (eSlot 1) (eUn oNeg (eC (.int 1)))) (eC (.int 1))) (eOp oAdd (eSlot 4) (eC (.int 1))))
    (sDrop (eM "list" mAppend (eSlot 5) (aCons (eOp oIx (eSlot 3) (eSlot 4)) aNil))))))))
    (sRet (eSlot 2)))))
noncomputable def b_is_index (C : Calls) : Sv :=
    (sRet (eAnd (eCall C 25 1 (aCons (eSlot 0) aNil)) (eT (tChn (eC (.int 0)) (.more cLe (eSlot 0) (.last cLt (eSlot 1)))))))
noncomputable def b_is_row (C : Calls) : Sv :=
    (sRet (eAnd (eOp (fIsi Γ) (eSlot 0) (eC (.ty "tuple"))) (eAnd (eT (tCmp cLe (eUn fLen (eSlot 0)) (eC (.int (12))))) (eDrop (eUn fAll (eComp [1] (iSeq (eSlot 0)) (.one 1) tTrue (eCall C 25 1 (aCons (eSlot 1) aNil))))))))
noncomputable def b_is_row_of (C : Calls) : Sv :=
    (sRet (eAnd (eCall C 29 1 (aCons (eSlot 0) aNil)) (eT (tCmp (cOwn Γ C "__eq__" cEq) (eUn fLen (eSlot 0)) (eSlot 1)))))
noncomputable def b_are_rows (C : Calls) : Sv :=
    (sRet (eAnd (eOp (fIsi Γ) (eSlot 0) (eC (.ty "tuple"))) (eAnd (eT (tCmp cLe (eUn fLen (eSlot 0)) (eC (.int (8))))) (eDrop (eUn fAll (eComp [2] (iSeq (eSlot 0)) (.one 2) tTrue (eCall C 30 2 (aCons (eSlot 2) (aCons (eSlot 1) aNil)))))))))
noncomputable def b_need_list (C : Calls) : Sv :=
    (sSeq (sIf (tNot (tV (eOp (fIsi Γ) (eSlot 0) (eC (.cls 0))))) sStuck sNx)
    (sRet (eSlot 0)))
noncomputable def b_sum_of (C : Calls) : Sv :=
    (sSeq (sAsg (gOne 3) (eOp oMul (eLst (aCons (eC (.int 0)) aNil)) (eSlot 2)))
    (sSeq (sFor (iZip (eSlot 0) (eSlot 1)) (.many [4, 5]) (sAsg (gOne 3) (eComp [6, 7] (iZip (eSlot 3) (eSlot 5)) (.many [6, 7]) tTrue (eOp oAdd (eSlot 6) (eOp oMul (eSlot 4) (eSlot 7))))))
    (sRet (eSlot 3))))
noncomputable def b_still_rows (C : Calls) : Sv :=
    (sRet (eComp [1] (iRng1 (eSlot 0)) (.one 1) tTrue (eComp [2] (iRng1 (eSlot 0)) (.one 2) tTrue (eIf (tCmp (cOwn Γ C "__eq__" cEq) (eSlot 1) (eSlot 2)) (eC (.int 1)) (eC (.int 0))))))
noncomputable def b_stepper_of (C : Calls) : Sv :=
    (sRet (eNew C 1 2 (aCons (eUn (oFld Γ "rows") (eSlot 0)) (aCons (eUn (oFld Γ "width") (eSlot 0)) aNil))))
noncomputable def b_as_table (C : Calls) : Sv :=
    (sRet (eDrop (eUn fTup (eComp [1] (iSeq (eSlot 0)) (.one 1) tTrue (eUn fTup (eSlot 1))))))
noncomputable def b_is_grid (C : Calls) : Sv :=
    (sSeq (sIf (tOr (tNot (tV (eOp (fIsi Γ) (eSlot 0) (eC (.ty "tuple"))))) (tCmp (cOwn Γ C "__ne__" cNe) (eUn fLen (eSlot 0)) (eSlot 1))) (sRet (eC (.bl false))) sNx)
    (sSeq (sFor (iSeq (eSlot 0)) (.one 3) (sIf (tOr (tNot (tV (eOp (fIsi Γ) (eSlot 3) (eC (.ty "tuple"))))) (tOr (tCmp (cOwn Γ C "__ne__" cNe) (eUn fLen (eSlot 3)) (eSlot 2)) (tNot (tV (eDrop (eUn fAll (eComp [4] (iSeq (eSlot 3)) (.one 4) tTrue (eCall C 25 1 (aCons (eSlot 4) aNil))))))))) (sRet (eC (.bl false))) sNx))
    (sRet (eC (.bl true)))))
noncomputable def b_need_row (C : Calls) : Sv :=
    (sSeq (sAsg (gOne 2) (eIf (tV (eOp (fIsi Γ) (eSlot 1) (eC (.ty "list")))) (eUn fTup (eSlot 1)) (eSlot 1)))
    (sSeq (sIf (tNot (tV (eCall C 37 3 (aCons (eTup (aCons (eSlot 2) aNil)) (aCons (eC (.int 1)) (aCons (eUn (oFld Γ "width") (eSlot 0)) aNil)))))) sStuck sNx)
    (sRet (eSlot 2))))
noncomputable def b_numbers_by (C : Calls) : Sv :=
    (sRet (eUn fTup (eCall C 33 3 (aCons (eSlot 1) (aCons (eUn (oFld Γ "there") (eSlot 0)) (aCons (eSlot 2) aNil))))))
noncomputable def b_greatest_divisor (C : Calls) : Sv :=
    (sSeq (sWhile (tV (eSlot 1)) (sPar [0, 1] (aCons (eSlot 1) (aCons (eOp oMod (eSlot 0) (eSlot 1)) aNil))))
    (sRet (eUn fAbs (eSlot 0))))
noncomputable def b_fractions_by (C : Calls) : Sv :=
    (sSeq (sAsg (gOne 3) (eOp oIx (eComp [10] (iRng1 (eSlot 2)) (.one 10) (tCmp (cOwn Γ C "__ne__" cNe) (eOp oIx (eSlot 1) (eSlot 10)) (eC (.int 0))) (eSlot 10)) (eC (.int 0))))
    (sSeq (sAsg (gOne 4) (eComp [9, 10] (iZip (eMeth Γ C "form" (eSlot 0) aNil) (eUn (oFld Γ "leading") (eSlot 0))) (.many [9, 10]) (tCmp (cOwn Γ C "__eq__" cEq) (eSlot 10) (eSlot 3)) (eOp oIx (eSlot 9) (eSlot 3))))
    (sSeq (sAsg (gOne 5) (eIf (tV (eSlot 4)) (eOp oIx (eSlot 4) (eC (.int 0))) (eOp oMul (eC (.int 2)) (eUn fAbs (eOp oIx (eSlot 1) (eSlot 3))))))
    (sSeq (sAsg (gOne 6) (eOp oMul (eLst (aCons (eC (.int 0)) aNil)) (eSlot 2)))
    (sSeq (sAsg (gSubS (eSlot 6) (eSlot 3)) (eC (.int 1)))
    (sSeq (sAsg (gOne 7) (eComp [8, 10] (iEnum' (eUn (oFld Γ "leading") (eSlot 0))) (.many [8, 10]) (tCmp cLt (eSlot 10) (eSlot 3)) (eSlot 8)))
    (sSeq (sFor (iSeq (eUn oRev (eSlot 7))) (.one 8) (sSeq (sAsg (gTupG [(gOne 9), (gOne 10)]) (eTup (aCons (eOp oIx (eUn (oFld Γ "rows") (eSlot 0)) (eSlot 8)) (aCons (eOp oIx (eUn (oFld Γ "leading") (eSlot 0)) (eSlot 8)) aNil))))
    (sSeq (sAsg (gOne 11) (eDrop (eUn fSum (eComp [14, 13] (iZip (eSlot 9) (eSlot 6)) (.many [14, 13]) tTrue (eOp oMul (eSlot 14) (eSlot 13))))))
    (sSeq (sAsg (gOne 6) (eComp [13] (iSeq (eSlot 6)) (.one 13) tTrue (eOp oMul (eOp oIx (eSlot 9) (eSlot 10)) (eSlot 13))))
    (sSeq (sAsg (gSubS (eSlot 6) (eSlot 10)) (eUn oNeg (eSlot 11)))
    (sAsg (gOne 5) (eOp oMul (eSlot 5) (eOp oIx (eSlot 9) (eSlot 10)))))))))
    (sSeq (sAsg (gOne 12) (eSlot 5))
    (sSeq (sFor (iSeq (eSlot 6)) (.one 13) (sAsg (gOne 12) (eCall C 40 2 (aCons (eSlot 12) (aCons (eSlot 13) aNil)))))
    (sRet (eTup (aCons (eDrop (eUn fTup (eComp [13] (iSeq (eSlot 6)) (.one 13) tTrue (eOp oFdiv (eSlot 13) (eSlot 12))))) (aCons (eOp oFdiv (eSlot 5) (eSlot 12)) aNil)))))))))))))
noncomputable def b_made_by (C : Calls) : Sv :=
    (sSeq (sAsg (gOne 2) (eCall C 35 1 (aCons (eSlot 0) aNil)))
    (sSeq (sAsg (gTupG [(gOne 3), (gOne 4)]) (eMeth Γ C "lowered" (eSlot 2) (aCons (eSlot 1) aNil)))
    (sSeq (sIf (tNot (tV (eUn fAny (eSlot 4)))) (sRet (eNew C 2 1 (aCons (eCall C 39 3 (aCons (eSlot 2) (aCons (eSlot 3) (aCons (eUn fLen (eUn (oFld Γ "rows") (eSlot 0))) aNil)))) aNil))) sNx)
    (sSeq (sAsg (gTupG [(gOne 5), (gOne 6)]) (eCall C 41 3 (aCons (eSlot 2) (aCons (eSlot 4) (aCons (eUn (oFld Γ "width") (eSlot 0)) aNil)))))
    (sRet (eNew C 3 2 (aCons (eSlot 5) (aCons (eSlot 6) aNil))))))))
noncomputable def b_unit_row (C : Calls) : Sv :=
    (sRet (eDrop (eUn fTup (eComp [3] (iRng1 (eSlot 0)) (.one 3) tTrue (eIf (tCmp (cOwn Γ C "__eq__" cEq) (eSlot 1) (eSlot 3)) (eSlot 2) (eC (.int 0)))))))
noncomputable def b_need_by (C : Calls) : Sv :=
    (sSeq (sIf (tOr (tNot (tV (eCall C 25 1 (aCons (eSlot 0) aNil)))) (tNot (tChn (eC (.int 2)) (.more cLe (eSlot 0) (.last cLe (eC (.int (1000000)))))))) sStuck sNx)
    (sRet (eSlot 0)))
noncomputable def b_need_question (C : Calls) : Sv :=
    (sSeq (sAsg (gOne 3) (eCall C 38 2 (aCons (eCall C 32 1 (aCons (eSlot 0) aNil)) (aCons (eSlot 1) aNil))))
    (sSeq (sDrop (eCall C 44 1 (aCons (eSlot 2) aNil)))
    (sRet (eSlot 3))))
noncomputable def b_made_or_not_by (C : Calls) : Sv :=
    (sSeq (sAsg (gOne 4) (eCall C 42 2 (aCons (eNew C 6 3 (aCons (eSlot 0) (aCons (eSlot 1) (aCons (eSlot 3) aNil)))) (aCons (eSlot 2) aNil))))
    (sSeq (sIf (tV (eOp (fIsi Γ) (eSlot 4) (eC (.cls 2)))) (sRet (eNew C 4 1 (aCons (eDrop (eUn fTup (eComp [5] (iSeq (eCut (eUn (oFld Γ "numbers") (eSlot 4)) pNone (pSome (eUn fLen (eSlot 0))))) (.one 5) tTrue (eOp oMod (eSlot 5) (eSlot 3))))) aNil))) sNx)
    (sRet (eNew C 5 1 (aCons (eDrop (eUn fTup (eComp [6] (iSeq (eUn (oFld Γ "tops") (eSlot 4))) (.one 6) tTrue (eOp oMod (eOp oFdiv (eOp oMul (eSlot 6) (eSlot 3)) (eUn (oFld Γ "bottom") (eSlot 4))) (eSlot 3))))) aNil)))))
noncomputable def b_made_by_or_not (C : Calls) : Sv :=
    (sSeq (sAsg (gOne 3) (eCall C 45 3 (aCons (eSlot 0) (aCons (eSlot 1) (aCons (eSlot 2) aNil)))))
    (sRet (eCall C 46 4 (aCons (eUn (oFld Γ "rows") (eSlot 0)) (aCons (eUn (oFld Γ "width") (eSlot 0)) (aCons (eSlot 3) (aCons (eSlot 2) aNil)))))))
noncomputable def b_are_leftovers (C : Calls) : Sv :=
    (sRet (eAnd (eOp (fIsi Γ) (eSlot 0) (eC (.ty "tuple"))) (eAnd (eT (tCmp (cOwn Γ C "__eq__" cEq) (eUn fLen (eSlot 0)) (eSlot 1))) (eDrop (eUn fAll (eComp [3] (iSeq (eSlot 0)) (.one 3) tTrue (eCall C 28 2 (aCons (eSlot 3) (aCons (eSlot 2) aNil)))))))))
noncomputable def b_are_same_by (C : Calls) : Sv :=
    (sRet (eDrop (eUn fAll (eComp [3, 4] (iZip (eSlot 0) (eSlot 1)) (.many [3, 4]) tTrue (eT (tCmp (cOwn Γ C "__eq__" cEq) (eOp oMod (eOp oSub (eSlot 3) (eSlot 4)) (eSlot 2)) (eC (.int 0))))))))
noncomputable def b_made_by_holds (C : Calls) : Sv :=
    (sSeq (sAsg (gOne 4) (eCall C 45 3 (aCons (eSlot 0) (aCons (eSlot 1) (aCons (eSlot 2) aNil)))))
    (sSeq (sIf (tOr (tNot (tV (eOp (fIsi Γ) (eSlot 3) (eC (.cls 4))))) (tNot (tV (eCall C 48 3 (aCons (eUn (oFld Γ "numbers") (eSlot 3)) (aCons (eUn fLen (eUn (oFld Γ "rows") (eSlot 0))) (aCons (eSlot 2) aNil))))))) (sRet (eC (.bl false))) sNx)
    (sRet (eCall C 49 3 (aCons (eCall C 33 3 (aCons (eUn (oFld Γ "numbers") (eSlot 3)) (aCons (eUn (oFld Γ "rows") (eSlot 0)) (aCons (eUn (oFld Γ "width") (eSlot 0)) aNil)))) (aCons (eSlot 4) (aCons (eSlot 2) aNil)))))))
noncomputable def b_does_divide (C : Calls) : Sv :=
    (sRet (eT (tCmp (cOwn Γ C "__eq__" cEq) (eOp oMod (eDrop (eUn fSum (eComp [3, 4] (iZip (eSlot 0) (eSlot 1)) (.many [3, 4]) tTrue (eOp oMul (eSlot 3) (eSlot 4))))) (eSlot 2)) (eC (.int 0)))))
noncomputable def b_not_made_by_holds (C : Calls) : Sv :=
    (sSeq (sAsg (gOne 4) (eCall C 45 3 (aCons (eSlot 0) (aCons (eSlot 1) (aCons (eSlot 2) aNil)))))
    (sSeq (sIf (tOr (tNot (tV (eOp (fIsi Γ) (eSlot 3) (eC (.cls 5))))) (tNot (tV (eCall C 48 3 (aCons (eUn (oFld Γ "tops") (eSlot 3)) (aCons (eUn (oFld Γ "width") (eSlot 0)) (aCons (eSlot 2) aNil))))))) (sRet (eC (.bl false))) sNx)
    (sSeq (sIf (tNot (tV (eDrop (eUn fAll (eComp [5] (iSeq (eUn (oFld Γ "rows") (eSlot 0))) (.one 5) tTrue (eCall C 51 3 (aCons (eUn (oFld Γ "tops") (eSlot 3)) (aCons (eSlot 5) (aCons (eSlot 2) aNil))))))))) (sRet (eC (.bl false))) sNx)
    (sRet (eT (tNot (tV (eCall C 51 3 (aCons (eUn (oFld Γ "tops") (eSlot 3)) (aCons (eSlot 4) (aCons (eSlot 2) aNil)))))))))))
noncomputable def b__law_pen (C : Calls) : Sv :=
    (sSeq (sAsg (gOne 1) (eC (.int 0)))
    (sSeq (sFor (iSeq (eSlot 0)) (.one 2) (sAsg (gOne 1) (eOp oMod (eUn fInt (eOp oAdd (eOp oMul (eSlot 1) (eC (.int 47))) (eSlot 2))) (eC (.int 1000000007)))))
    (sRet (eDct [((eC (.str "cells")), (eUn fLst (eSlot 0))), ((eC (.str "at")), (eC (.int 0))), ((eC (.str "digits")), (eC (.int 0))), ((eC (.str "count")), (eC (.int 0))), ((eC (.str "fold")), (eSlot 1))]))))
noncomputable def b__law_draw (C : Calls) : Sv :=
    (sSeq (sAsg (gSubS (eSlot 0) (eC (.str "count"))) (eOp oAdd (eOp oIx (eSlot 0) (eC (.str "count"))) (eC (.int 1))))
    (sSeq (sIf (tAnd (tCmp (cOwn Γ C "__eq__" cEq) (eOp oIx (eSlot 0) (eC (.str "digits"))) (eC (.int 0))) (tCmp cLt (eOp oIx (eSlot 0) (eC (.str "at"))) (eUn fLen (eOp oIx (eSlot 0) (eC (.str "cells")))))) (sSeq (sAsg (gOne 2) (eOp oIx (eOp oIx (eSlot 0) (eC (.str "cells"))) (eOp oIx (eSlot 0) (eC (.str "at")))))
    (sSeq (sAsg (gSubS (eSlot 0) (eC (.str "at"))) (eOp oAdd (eOp oIx (eSlot 0) (eC (.str "at"))) (eC (.int 1))))
    (sIf (tCmp cGe (eSlot 2) (eOp oPow (eC (.int 10)) (eC (.int 18)))) (sAsg (gSubS (eSlot 0) (eC (.str "digits"))) (eOp oSub (eSlot 2) (eOp oPow (eC (.int 10)) (eC (.int 18))))) (sAsg (gSubS (eSlot 0) (eC (.str "fold"))) (eOp oMod (eUn fInt (eOp oAdd (eOp oMul (eOp oIx (eSlot 0) (eC (.str "fold"))) (eC (.int 69069))) (eSlot 2))) (eC (.int 2147483587))))))) sNx)
    (sSeq (sIf (tCmp cGt (eOp oIx (eSlot 0) (eC (.str "digits"))) (eC (.int 0))) (sSeq (sAsg (gOne 3) (eOp oMod (eUn fInt (eOp oIx (eSlot 0) (eC (.str "digits")))) (eSlot 1)))
    (sSeq (sAsg (gSubS (eSlot 0) (eC (.str "digits"))) (eOp oFdiv (eOp oIx (eSlot 0) (eC (.str "digits"))) (eSlot 1)))
    (sRet (eSlot 3)))) sNx)
    (sSeq (sAsg (gOne 4) (eOp oMod (eUn fInt (eOp oAdd (eOp oAdd (eOp oMul (eOp oIx (eSlot 0) (eC (.str "fold"))) (eC (.int 48271))) (eOp oMul (eOp oIx (eSlot 0) (eC (.str "count"))) (eC (.int 7919)))) (eC (.int 13)))) (eC (.int 2147483647))))
    (sSeq (sAsg (gOne 4) (eOp oMod (eUn fInt (eOp oAdd (eOp oAdd (eOp oMul (eSlot 4) (eSlot 4)) (eOp oMul (eC (.int 31)) (eSlot 4))) (eOp oIx (eSlot 0) (eC (.str "count"))))) (eC (.int 2147483629))))
    (sSeq (sAsg (gSubS (eSlot 0) (eC (.str "fold"))) (eOp oMod (eUn fInt (eOp oAdd (eOp oMul (eSlot 4) (eC (.int 16807))) (eC (.int 7)))) (eC (.int 2147483647))))
    (sRet (eOp oMod (eUn fInt (eOp oFdiv (eSlot 4) (eC (.int 64)))) (eSlot 1)))))))))
noncomputable def b__law_pick (C : Calls) : Sv :=
    (sRet (eOp oIx (eSlot 1) (eCall C 54 2 (aCons (eSlot 0) (aCons (eUn fLen (eSlot 1)) aNil)))))
noncomputable def b__law_shuffled (C : Calls) : Sv :=
    (sSeq (sPar [2, 3] (aCons (eUn fLst (eSlot 1)) (aCons (eLst aNil) aNil)))
    (sSeq (sFor (iRng1 (eUn fLen (eSlot 1))) (.one 4) (sDrop (eM "list" mAppend (eSlot 3) (aCons (eM "list" mPopAt (eSlot 2) (aCons (eCall C 54 2 (aCons (eSlot 0) (aCons (eUn fLen (eSlot 2)) aNil))) aNil)) aNil))))
    (sRet (eSlot 3))))
noncomputable def b__law_is (C : Calls) : Sv :=
    (sSeq (sIf (tV (eOp (fIsi Γ) (eSlot 1) (eC (.ty "tuple")))) (sSeq (sIf (tOr (tNot (tV (eOp (fIsi Γ) (eSlot 0) (eC (.ty "tuple"))))) (tCmp (cOwn Γ C "__ne__" cNe) (eUn fLen (eSlot 0)) (eUn fLen (eSlot 1)))) (sRet (eC (.bl false))) sNx)
    (sRet (eT (tCmp (cOwn Γ C "__eq__" cEq) (eComp [2] (iRng1 (eUn fLen (eSlot 1))) (.one 2) (tNot (tV (eCall C 57 2 (aCons (eOp oIx (eSlot 0) (eSlot 2)) (aCons (eOp oIx (eSlot 1) (eSlot 2)) aNil))))) (eSlot 2)) (eLst aNil))))) sNx)
    (sSeq (sIf (tCmp cIs (eSlot 1) (eC .non)) (sRet (eT (tCmp cIs (eSlot 0) (eC .non)))) sNx)
    (sSeq (sIf (tCmp cIs (eSlot 1) (eC (.bl true))) (sRet (eT (tCmp cIs (eSlot 0) (eC (.bl true))))) sNx)
    (sSeq (sIf (tCmp cIs (eSlot 1) (eC (.bl false))) (sRet (eT (tCmp cIs (eSlot 0) (eC (.bl false))))) sNx)
    (sSeq (sIf (tV (eOp (fIsi Γ) (eSlot 1) (eC (.ty "str")))) (sRet (eAnd (eOp (fIsi Γ) (eSlot 0) (eC (.ty "str"))) (eT (tCmp (cOwn Γ C "__eq__" cEq) (eSlot 0) (eSlot 1))))) sNx)
    (sRet (eAnd (eOp (fIsi Γ) (eSlot 0) (eC (.ty "int"))) (eAnd (eT (tNot (tV (eOp (fIsi Γ) (eSlot 0) (eC (.ty "bool")))))) (eT (tCmp (cOwn Γ C "__eq__" cEq) (eSlot 0) (eSlot 1)))))))))))
noncomputable def b__law_whole (C : Calls) : Sv :=
    (sRet (eAnd (eOp (fIsi Γ) (eSlot 0) (eC (.ty "int"))) (eT (tNot (tV (eOp (fIsi Γ) (eSlot 0) (eC (.ty "bool"))))))))
noncomputable def b__law_sum (C : Calls) : Sv :=
    (sSeq (sAsg (gOne 3) (eOp oMul (eLst (aCons (eC (.int 0)) aNil)) (eSlot 2)))
    (sSeq (sFor (iZip (eSlot 0) (eSlot 1)) (.many [4, 5]) (sAsg (gOne 3) (eComp [6, 7] (iZip (eSlot 3) (eSlot 5)) (.many [6, 7]) tTrue (eOp oAdd (eSlot 6) (eOp oMul (eSlot 4) (eSlot 7))))))
    (sRet (eUn fTup (eSlot 3)))))
noncomputable def b__law_drawn_row (C : Calls) : Sv :=
    (sRet (eDrop (eUn fTup (eComp [3] (iRng1 (eSlot 1)) (.one 3) tTrue (eOp oSub (eCall C 54 2 (aCons (eSlot 0) (aCons (eOp oAdd (eOp oMul (eC (.int 2)) (eSlot 2)) (eC (.int 1))) aNil))) (eSlot 2))))))
noncomputable def b__law_drawn_rows (C : Calls) : Sv :=
    (sSeq (sAsg (gOne 4) (eComp [5] (iRng1 (eCall C 54 2 (aCons (eSlot 0) (aCons (eOp oAdd (eSlot 2) (eC (.int 1))) aNil)))) (.one 5) tTrue (eCall C 60 3 (aCons (eSlot 0) (aCons (eSlot 1) (aCons (eSlot 3) aNil))))))
    (sSeq (sIf (tAnd (tCmp (cOwn Γ C "__ne__" cNe) (eSlot 4) (eLst aNil)) (tAnd (tCmp cLt (eUn fLen (eSlot 4)) (eSlot 2)) (tCmp (cOwn Γ C "__eq__" cEq) (eCall C 54 2 (aCons (eSlot 0) (aCons (eC (.int 2)) aNil))) (eC (.int 0))))) (sDrop (eM "list" mAppend (eSlot 4) (aCons (eCall C 59 3 (aCons (eComp [6] (iSeq (eSlot 4)) (.one 6) tTrue (eOp oSub (eCall C 54 2 (aCons (eSlot 0) (aCons (eC (.int 5)) aNil))) (eC (.int 2)))) (aCons (eSlot 4) (aCons (eSlot 1) aNil)))) aNil))) sNx)
    (sRet (eUn fTup (eCall C 56 2 (aCons (eSlot 0) (aCons (eSlot 4) aNil)))))))
noncomputable def b__law_is_row (C : Calls) : Sv :=
    (sRet (eAnd (eOp (fIsi Γ) (eSlot 0) (eC (.ty "tuple"))) (eAnd (eT (tCmp (cOwn Γ C "__eq__" cEq) (eUn fLen (eSlot 0)) (eSlot 1))) (eT (tCmp (cOwn Γ C "__eq__" cEq) (eComp [2] (iSeq (eSlot 0)) (.one 2) (tNot (tV (eCall C 58 1 (aCons (eSlot 2) aNil)))) (eSlot 2)) (eLst aNil))))))
noncomputable def b__law_multiple (C : Calls) : Sv :=
    (sRet (eT (tCmp (cOwn Γ C "__eq__" cEq) (eOp oMod (eDrop (eUn fSum (eComp [3, 4] (iZip (eSlot 0) (eSlot 1)) (.many [3, 4]) tTrue (eOp oMul (eSlot 3) (eSlot 4))))) (eSlot 2)) (eC (.int 0)))))
noncomputable def b__law_are_left (C : Calls) : Sv :=
    (sRet (eAnd (eCall C 62 2 (aCons (eSlot 0) (aCons (eSlot 1) aNil))) (eT (tCmp (cOwn Γ C "__eq__" cEq) (eComp [3] (iSeq (eSlot 0)) (.one 3) (tNot (tChn (eC (.int 0)) (.more cLe (eSlot 3) (.last cLt (eSlot 2))))) (eSlot 3)) (eLst aNil)))))
noncomputable def b_law (C : Calls) : Sv :=
    (sSeq (sAsg (gOne 1) (eCall C 53 1 (aCons (eSlot 0) aNil)))
    (sSeq (sFor (iRng1 (eC (.int 3))) (.one 2) (sSeq (sAsg (gTupG [(gOne 3), (gOne 4)]) (eTup (aCons (eOp oAdd (eC (.int 1)) (eCall C 54 2 (aCons (eSlot 1) (aCons (eC (.int 3)) aNil)))) (aCons (eOp oAdd (eC (.int 2)) (eCall C 54 2 (aCons (eSlot 1) (aCons (eC (.int 14)) aNil)))) aNil))))
    (sSeq (sAsg (gOne 5) (eCall C 61 4 (aCons (eSlot 1) (aCons (eSlot 3) (aCons (eC (.int 3)) (aCons (eC (.int 9)) aNil))))))
    (sSeq (sAsg (gOne 6) (eNew C 0 2 (aCons (eSlot 3) (aCons (eSlot 5) aNil))))
    (sSeq (sAsg (gOne 7) (eCall C 55 2 (aCons (eSlot 1) (aCons (eLst (aCons (eCall C 60 3 (aCons (eSlot 1) (aCons (eSlot 3) (aCons (eC (.int 12)) aNil)))) (aCons (eCall C 59 3 (aCons (eCall C 60 3 (aCons (eSlot 1) (aCons (eUn fLen (eSlot 5)) (aCons (eC (.int 4)) aNil)))) (aCons (eSlot 5) (aCons (eSlot 3) aNil)))) aNil))) aNil))))
    (sSeq (sAsg (gOne 8) (eCall C 47 3 (aCons (eSlot 6) (aCons (eSlot 7) (aCons (eSlot 4) aNil)))))
    (sFor (iRng1 (eC (.int 6))) (.one 9) (sSeq (sAsg (gOne 10) (eIf (tV (eOp (fIsi Γ) (eSlot 8) (eC (.cls 4)))) (eUn (oFld Γ "numbers") (eSlot 8)) (eDrop (eUn fTup (eComp [16] (iSeq (eSlot 5)) (.one 16) tTrue (eCall C 54 2 (aCons (eSlot 1) (aCons (eSlot 4) aNil))))))))
    (sSeq (sAsg (gOne 11) (eLst (aCons (eSlot 10) (aCons (eSlot 10) (aCons (eSlot 10) (aCons (eCut (eSlot 10) (pSome (eC (.int 1))) pNone) (aCons (eUn oRev (eSlot 10)) (aCons (eOp oAdd (eSlot 10) (eTup (aCons (eC (.int 0)) aNil))) (aCons (eUn fLst (eSlot 10)) (aCons (eC .non) (aCons (eDrop (eUn fTup (eComp [14] (iSeq (eSlot 10)) (.one 14) tTrue (eOp oAdd (eSlot 14) (eSlot 4))))) (aCons (eDrop (eUn fTup (eComp [14] (iSeq (eSlot 10)) (.one 14) tTrue (eOp oMod (eOp oAdd (eSlot 14) (eC (.int 1))) (eSlot 4))))) (aCons (eDrop (eUn fTup (eComp [14] (iSeq (eSlot 10)) (.one 14) tTrue (eC (.bl true))))) aNil)))))))))))))
    (sSeq (sAsg (gOne 12) (eCall C 55 2 (aCons (eSlot 1) (aCons (eOp oAdd (eComp [17] (iRng1 (eC (.int 7))) (.one 17) tTrue (eNew C 4 1 (aCons (eCall C 55 2 (aCons (eSlot 1) (aCons (eSlot 11) aNil))) aNil))) (eLst (aCons (eSlot 10) (aCons (eC .non) (aCons (eSlot 8) aNil))))) aNil))))
    (sSeq (sAsg (gOne 13) (eAnd (eOp (fIsi Γ) (eSlot 12) (eC (.cls 4))) (eCall C 64 3 (aCons (eUn (oFld Γ "numbers") (eSlot 12)) (aCons (eUn fLen (eSlot 5)) (aCons (eSlot 4) aNil))))))
    (sSeq (sAsg (gOne 13) (eAnd (eSlot 13) (eT (tCmp (cOwn Γ C "__eq__" cEq) (eComp [14, 18] (iZip (eCall C 59 3 (aCons (eUn (oFld Γ "numbers") (eSlot 12)) (aCons (eSlot 5) (aCons (eSlot 3) aNil)))) (eSlot 7)) (.many [14, 18]) (tCmp (cOwn Γ C "__ne__" cNe) (eOp oMod (eOp oSub (eSlot 14) (eSlot 18)) (eSlot 4)) (eC (.int 0))) (eC (.int 1))) (eLst aNil)))))
    (sSeq (sIf (tNot (tV (eCall C 57 2 (aCons (eCall C 50 4 (aCons (eSlot 6) (aCons (eSlot 7) (aCons (eSlot 4) (aCons (eSlot 12) aNil))))) (aCons (eSlot 13) aNil))))) (sRet (eC (.bl false))) sNx)
    (sSeq (sAsg (gOne 10) (eIf (tV (eOp (fIsi Γ) (eSlot 8) (eC (.cls 5)))) (eUn (oFld Γ "tops") (eSlot 8)) (eDrop (eUn fTup (eComp [19] (iRng1 (eSlot 3)) (.one 19) tTrue (eCall C 54 2 (aCons (eSlot 1) (aCons (eSlot 4) aNil))))))))
    (sSeq (sAsg (gOne 11) (eLst (aCons (eSlot 10) (aCons (eSlot 10) (aCons (eSlot 10) (aCons (eCut (eSlot 10) (pSome (eC (.int 1))) pNone) (aCons (eUn oRev (eSlot 10)) (aCons (eOp oAdd (eSlot 10) (eTup (aCons (eC (.int 0)) aNil))) (aCons (eUn fLst (eSlot 10)) (aCons (eC .non) (aCons (eDrop (eUn fTup (eComp [14] (iSeq (eSlot 10)) (.one 14) tTrue (eOp oSub (eSlot 14) (eSlot 4))))) aNil)))))))))))
    (sSeq (sAsg (gOne 11) (eOp oAdd (eSlot 11) (eLst (aCons (eDrop (eUn fTup (eComp [14] (iSeq (eSlot 10)) (.one 14) tTrue (eOp oMod (eOp oMul (eC (.int 2)) (eSlot 14)) (eSlot 4))))) (aCons (eDrop (eUn fTup (eComp [14] (iSeq (eSlot 10)) (.one 14) tTrue (eC (.bl true))))) (aCons (eOp oMul (eTup (aCons (eC (.int 0)) aNil)) (eSlot 3)) aNil))))))
    (sSeq (sAsg (gOne 12) (eCall C 55 2 (aCons (eSlot 1) (aCons (eOp oAdd (eComp [17] (iRng1 (eC (.int 7))) (.one 17) tTrue (eNew C 5 1 (aCons (eCall C 55 2 (aCons (eSlot 1) (aCons (eSlot 11) aNil))) aNil))) (eLst (aCons (eSlot 10) (aCons (eC .non) (aCons (eSlot 8) aNil))))) aNil))))
    (sSeq (sAsg (gOne 13) (eAnd (eOp (fIsi Γ) (eSlot 12) (eC (.cls 5))) (eAnd (eCall C 64 3 (aCons (eUn (oFld Γ "tops") (eSlot 12)) (aCons (eSlot 3) (aCons (eSlot 4) aNil)))) (eT (tCmp (cOwn Γ C "__eq__" cEq) (eComp [16] (iSeq (eSlot 5)) (.one 16) (tNot (tV (eCall C 63 3 (aCons (eUn (oFld Γ "tops") (eSlot 12)) (aCons (eSlot 16) (aCons (eSlot 4) aNil)))))) (eSlot 16)) (eLst aNil))))))
    (sSeq (sAsg (gOne 13) (eAnd (eSlot 13) (eT (tNot (tV (eCall C 63 3 (aCons (eUn (oFld Γ "tops") (eSlot 12)) (aCons (eSlot 7) (aCons (eSlot 4) aNil)))))))))
    (sIf (tNot (tV (eCall C 57 2 (aCons (eCall C 52 4 (aCons (eSlot 6) (aCons (eSlot 7) (aCons (eSlot 4) (aCons (eSlot 12) aNil))))) (aCons (eSlot 13) aNil))))) (sRet (eC (.bl false))) sNx))))))))))))))))))))
    (sSeq (sPar [14, 15] (aCons (eNew C 4 1 (aCons (eLst (aCons (eC (.int 1)) aNil)) aNil)) (aCons (eNew C 5 1 (aCons (eLst (aCons (eC (.int 1)) aNil)) aNil)) aNil)))
    (sSeq (sIf (tOr (tCmp cIsNot (eT (tCmp (cOwn Γ C "__eq__" cEq) (eSlot 14) (eNew C 4 1 (aCons (eTup (aCons (eC (.int 1)) aNil)) aNil)))) (eC (.bl true))) (tOr (tCmp cIsNot (eT (tCmp (cOwn Γ C "__ne__" cNe) (eSlot 14) (eNew C 4 1 (aCons (eTup (aCons (eC (.int 0)) aNil)) aNil)))) (eC (.bl true))) (tCmp cIsNot (eT (tCmp (cOwn Γ C "__eq__" cEq) (eSlot 14) (eSlot 15))) (eC (.bl false))))) (sRet (eC (.bl false))) sNx)
    (sRet (eAnd (eT (tCmp cIs (eT (tCmp (cOwn Γ C "__eq__" cEq) (eSlot 15) (eNew C 5 1 (aCons (eTup (aCons (eC (.int 1)) aNil)) aNil)))) (eC (.bl true)))) (eAnd (eT (tCmp cIs (eT (tCmp (cOwn Γ C "__ne__" cNe) (eSlot 15) (eNew C 5 1 (aCons (eTup (aCons (eC (.int 2)) aNil)) aNil)))) (eC (.bl true)))) (eT (tCmp cIs (eT (tCmp (cOwn Γ C "__eq__" cEq) (eSlot 15) (eTup (aCons (eC (.int 1)) aNil)))) (eC (.bl false)))))))))))
noncomputable def bs : List (Calls → Sv) := [b_List_init, b_List_eq, b_List_ne, b_Stepper_init, b_Stepper_cleared, b_Stepper_places, b_Stepper_take, b_Stepper_exchange, b_Stepper_form, b_Stepper_rest, b_Stepper_lowered, b_Made_init, b_Made_eq, b_Made_ne, b_NotMade_init, b_NotMade_eq, b_NotMade_ne, b_MadeBy_init, b_MadeBy_eq, b_MadeBy_ne, b_NotMadeBy_init, b_NotMadeBy_eq, b_NotMadeBy_ne, b_ByRows_init, b__wall, b_is_whole, b_is_number, b_as_tuples, b_is_index, b_is_row, b_is_row_of, b_are_rows, b_need_list, b_sum_of, b_still_rows, b_stepper_of, b_as_table, b_is_grid, b_need_row, b_numbers_by, b_greatest_divisor, b_fractions_by, b_made_by, b_unit_row, b_need_by, b_need_question, b_made_or_not_by, b_made_by_or_not, b_are_leftovers, b_are_same_by, b_made_by_holds, b_does_divide, b_not_made_by_holds, b__law_pen, b__law_draw, b__law_pick, b__law_shuffled, b__law_is, b__law_whole, b__law_sum, b__law_drawn_row, b__law_drawn_rows, b__law_is_row, b__law_multiple, b__law_are_left, b_law]
/-! ### the defs of the row -/
def d_List_init : He.DefD := ⟨("List", some ("__init__" : Str)), "__init__", "List.__init__", defArgs (sub 17 0), defBody (sub 17 0), defScope (sub 17 0), [], []⟩
def d_List_eq : He.DefD := ⟨("List", some ("__eq__" : Str)), "__eq__", "List.__eq__", defArgs (sub 17 1), defBody (sub 17 1), defScope (sub 17 1), [], []⟩
def d_List_ne : He.DefD := ⟨("List", some ("__ne__" : Str)), "__ne__", "List.__ne__", defArgs (sub 17 2), defBody (sub 17 2), defScope (sub 17 2), [], []⟩
def d_Stepper_init : He.DefD := ⟨("Stepper", some ("__init__" : Str)), "__init__", "Stepper.__init__", defArgs (sub 22 0), defBody (sub 22 0), defScope (sub 22 0), [], []⟩
def d_Stepper_cleared : He.DefD := ⟨("Stepper", some ("cleared" : Str)), "cleared", "Stepper.cleared", defArgs (sub 22 1), defBody (sub 22 1), defScope (sub 22 1), [], []⟩
def d_Stepper_places : He.DefD := ⟨("Stepper", some ("places" : Str)), "places", "Stepper.places", defArgs (sub 22 2), defBody (sub 22 2), defScope (sub 22 2), [], []⟩
def d_Stepper_take : He.DefD := ⟨("Stepper", some ("take" : Str)), "take", "Stepper.take", defArgs (sub 22 3), defBody (sub 22 3), defScope (sub 22 3), [], []⟩
def d_Stepper_exchange : He.DefD := ⟨("Stepper", some ("exchange" : Str)), "exchange", "Stepper.exchange", defArgs (sub 22 4), defBody (sub 22 4), defScope (sub 22 4), [], []⟩
def d_Stepper_form : He.DefD := ⟨("Stepper", some ("form" : Str)), "form", "Stepper.form", defArgs (sub 22 5), defBody (sub 22 5), defScope (sub 22 5), [], []⟩
def d_Stepper_rest : He.DefD := ⟨("Stepper", some ("rest" : Str)), "rest", "Stepper.rest", defArgs (sub 22 6), defBody (sub 22 6), defScope (sub 22 6), [], []⟩
def d_Stepper_lowered : He.DefD := ⟨("Stepper", some ("lowered" : Str)), "lowered", "Stepper.lowered", defArgs (sub 22 7), defBody (sub 22 7), defScope (sub 22 7), [], []⟩
def d_Made_init : He.DefD := ⟨("Made", some ("__init__" : Str)), "__init__", "Made.__init__", defArgs (sub 28 0), defBody (sub 28 0), defScope (sub 28 0), [], []⟩
def d_Made_eq : He.DefD := ⟨("Made", some ("__eq__" : Str)), "__eq__", "Made.__eq__", defArgs (sub 28 1), defBody (sub 28 1), defScope (sub 28 1), [], []⟩
def d_Made_ne : He.DefD := ⟨("Made", some ("__ne__" : Str)), "__ne__", "Made.__ne__", defArgs (sub 28 2), defBody (sub 28 2), defScope (sub 28 2), [], []⟩
def d_NotMade_init : He.DefD := ⟨("NotMade", some ("__init__" : Str)), "__init__", "NotMade.__init__", defArgs (sub 29 0), defBody (sub 29 0), defScope (sub 29 0), [], []⟩
def d_NotMade_eq : He.DefD := ⟨("NotMade", some ("__eq__" : Str)), "__eq__", "NotMade.__eq__", defArgs (sub 29 1), defBody (sub 29 1), defScope (sub 29 1), [], []⟩
def d_NotMade_ne : He.DefD := ⟨("NotMade", some ("__ne__" : Str)), "__ne__", "NotMade.__ne__", defArgs (sub 29 2), defBody (sub 29 2), defScope (sub 29 2), [], []⟩
def d_MadeBy_init : He.DefD := ⟨("MadeBy", some ("__init__" : Str)), "__init__", "MadeBy.__init__", defArgs (sub 37 0), defBody (sub 37 0), defScope (sub 37 0), [], []⟩
def d_MadeBy_eq : He.DefD := ⟨("MadeBy", some ("__eq__" : Str)), "__eq__", "MadeBy.__eq__", defArgs (sub 37 1), defBody (sub 37 1), defScope (sub 37 1), [], []⟩
def d_MadeBy_ne : He.DefD := ⟨("MadeBy", some ("__ne__" : Str)), "__ne__", "MadeBy.__ne__", defArgs (sub 37 2), defBody (sub 37 2), defScope (sub 37 2), [], []⟩
def d_NotMadeBy_init : He.DefD := ⟨("NotMadeBy", some ("__init__" : Str)), "__init__", "NotMadeBy.__init__", defArgs (sub 38 0), defBody (sub 38 0), defScope (sub 38 0), [], []⟩
def d_NotMadeBy_eq : He.DefD := ⟨("NotMadeBy", some ("__eq__" : Str)), "__eq__", "NotMadeBy.__eq__", defArgs (sub 38 1), defBody (sub 38 1), defScope (sub 38 1), [], []⟩
def d_NotMadeBy_ne : He.DefD := ⟨("NotMadeBy", some ("__ne__" : Str)), "__ne__", "NotMadeBy.__ne__", defArgs (sub 38 2), defBody (sub 38 2), defScope (sub 38 2), [], []⟩
def d_ByRows_init : He.DefD := ⟨("ByRows", some ("__init__" : Str)), "__init__", "ByRows.__init__", defArgs (sub 39 0), defBody (sub 39 0), defScope (sub 39 0), [], []⟩
def d__wall : He.DefD := ⟨("_wall", none), "_wall", "_wall", defArgs (top 0), defBody (top 0), defScope (top 0), [], []⟩
def d_is_whole : He.DefD := ⟨("is_whole", none), "is_whole", "is_whole", defArgs (top 6), defBody (top 6), defScope (top 6), [], []⟩
def d_is_number : He.DefD := ⟨("is_number", none), "is_number", "is_number", defArgs (top 7), defBody (top 7), defScope (top 7), [], []⟩
def d_as_tuples : He.DefD := ⟨("as_tuples", none), "as_tuples", "as_tuples", defArgs (top 8), defBody (top 8), defScope (top 8), [], []⟩
def d_is_index : He.DefD := ⟨("is_index", none), "is_index", "is_index", defArgs (top 9), defBody (top 9), defScope (top 9), [], []⟩
def d_is_row : He.DefD := ⟨("is_row", none), "is_row", "is_row", defArgs (top 12), defBody (top 12), defScope (top 12), [], []⟩
def d_is_row_of : He.DefD := ⟨("is_row_of", none), "is_row_of", "is_row_of", defArgs (top 13), defBody (top 13), defScope (top 13), [], []⟩
def d_are_rows : He.DefD := ⟨("are_rows", none), "are_rows", "are_rows", defArgs (top 16), defBody (top 16), defScope (top 16), [], []⟩
def d_need_list : He.DefD := ⟨("need_list", none), "need_list", "need_list", defArgs (top 18), defBody (top 18), defScope (top 18), [], []⟩
def d_sum_of : He.DefD := ⟨("sum_of", none), "sum_of", "sum_of", defArgs (top 20), defBody (top 20), defScope (top 20), [], []⟩
def d_still_rows : He.DefD := ⟨("still_rows", none), "still_rows", "still_rows", defArgs (top 21), defBody (top 21), defScope (top 21), [], []⟩
def d_stepper_of : He.DefD := ⟨("stepper_of", none), "stepper_of", "stepper_of", defArgs (top 23), defBody (top 23), defScope (top 23), [], []⟩
def d_as_table : He.DefD := ⟨("as_table", none), "as_table", "as_table", defArgs (top 24), defBody (top 24), defScope (top 24), [], []⟩
def d_is_grid : He.DefD := ⟨("is_grid", none), "is_grid", "is_grid", defArgs (top 26), defBody (top 26), defScope (top 26), [], []⟩
def d_need_row : He.DefD := ⟨("need_row", none), "need_row", "need_row", defArgs (top 30), defBody (top 30), defScope (top 30), [], []⟩
def d_numbers_by : He.DefD := ⟨("numbers_by", none), "numbers_by", "numbers_by", defArgs (top 31), defBody (top 31), defScope (top 31), [], []⟩
def d_greatest_divisor : He.DefD := ⟨("greatest_divisor", none), "greatest_divisor", "greatest_divisor", defArgs (top 32), defBody (top 32), defScope (top 32), [], []⟩
def d_fractions_by : He.DefD := ⟨("fractions_by", none), "fractions_by", "fractions_by", defArgs (top 33), defBody (top 33), defScope (top 33), [], []⟩
def d_made_by : He.DefD := ⟨("made_by", none), "made_by", "made_by", defArgs (top 34), defBody (top 34), defScope (top 34), [], []⟩
def d_unit_row : He.DefD := ⟨("unit_row", none), "unit_row", "unit_row", defArgs (top 40), defBody (top 40), defScope (top 40), [], []⟩
def d_need_by : He.DefD := ⟨("need_by", none), "need_by", "need_by", defArgs (top 41), defBody (top 41), defScope (top 41), [], []⟩
def d_need_question : He.DefD := ⟨("need_question", none), "need_question", "need_question", defArgs (top 42), defBody (top 42), defScope (top 42), [], []⟩
def d_made_or_not_by : He.DefD := ⟨("made_or_not_by", none), "made_or_not_by", "made_or_not_by", defArgs (top 43), defBody (top 43), defScope (top 43), [], []⟩
def d_made_by_or_not : He.DefD := ⟨("made_by_or_not", none), "made_by_or_not", "made_by_or_not", defArgs (top 44), defBody (top 44), defScope (top 44), [], []⟩
def d_are_leftovers : He.DefD := ⟨("are_leftovers", none), "are_leftovers", "are_leftovers", defArgs (top 45), defBody (top 45), defScope (top 45), [], []⟩
def d_are_same_by : He.DefD := ⟨("are_same_by", none), "are_same_by", "are_same_by", defArgs (top 46), defBody (top 46), defScope (top 46), [], []⟩
def d_made_by_holds : He.DefD := ⟨("made_by_holds", none), "made_by_holds", "made_by_holds", defArgs (top 47), defBody (top 47), defScope (top 47), [], []⟩
def d_does_divide : He.DefD := ⟨("does_divide", none), "does_divide", "does_divide", defArgs (top 48), defBody (top 48), defScope (top 48), [], []⟩
def d_not_made_by_holds : He.DefD := ⟨("not_made_by_holds", none), "not_made_by_holds", "not_made_by_holds", defArgs (top 49), defBody (top 49), defScope (top 49), [], []⟩
def d__law_pen : He.DefD := ⟨("_law_pen", none), "_law_pen", "_law_pen", defArgs (top 51), defBody (top 51), defScope (top 51), [], []⟩
def d__law_draw : He.DefD := ⟨("_law_draw", none), "_law_draw", "_law_draw", defArgs (top 52), defBody (top 52), defScope (top 52), [], []⟩
def d__law_pick : He.DefD := ⟨("_law_pick", none), "_law_pick", "_law_pick", defArgs (top 53), defBody (top 53), defScope (top 53), [], []⟩
def d__law_shuffled : He.DefD := ⟨("_law_shuffled", none), "_law_shuffled", "_law_shuffled", defArgs (top 54), defBody (top 54), defScope (top 54), [], []⟩
def d__law_is : He.DefD := ⟨("_law_is", none), "_law_is", "_law_is", defArgs (top 55), defBody (top 55), defScope (top 55), [], []⟩
def d__law_whole : He.DefD := ⟨("_law_whole", none), "_law_whole", "_law_whole", defArgs (top 56), defBody (top 56), defScope (top 56), [], []⟩
def d__law_sum : He.DefD := ⟨("_law_sum", none), "_law_sum", "_law_sum", defArgs (top 57), defBody (top 57), defScope (top 57), [], []⟩
def d__law_drawn_row : He.DefD := ⟨("_law_drawn_row", none), "_law_drawn_row", "_law_drawn_row", defArgs (top 58), defBody (top 58), defScope (top 58), [], []⟩
def d__law_drawn_rows : He.DefD := ⟨("_law_drawn_rows", none), "_law_drawn_rows", "_law_drawn_rows", defArgs (top 59), defBody (top 59), defScope (top 59), [], []⟩
def d__law_is_row : He.DefD := ⟨("_law_is_row", none), "_law_is_row", "_law_is_row", defArgs (top 60), defBody (top 60), defScope (top 60), [], []⟩
def d__law_multiple : He.DefD := ⟨("_law_multiple", none), "_law_multiple", "_law_multiple", defArgs (top 61), defBody (top 61), defScope (top 61), [], []⟩
def d__law_are_left : He.DefD := ⟨("_law_are_left", none), "_law_are_left", "_law_are_left", defArgs (top 62), defBody (top 62), defScope (top 62), [], []⟩
def d_law : He.DefD := ⟨("law", none), "law", "law", defArgs (top 63), defBody (top 63), defScope (top 63), [], []⟩
def fnl : List He.DefD := [d_List_init, d_List_eq, d_List_ne, d_Stepper_init, d_Stepper_cleared, d_Stepper_places, d_Stepper_take, d_Stepper_exchange, d_Stepper_form, d_Stepper_rest, d_Stepper_lowered, d_Made_init, d_Made_eq, d_Made_ne, d_NotMade_init, d_NotMade_eq, d_NotMade_ne, d_MadeBy_init, d_MadeBy_eq, d_MadeBy_ne, d_NotMadeBy_init, d_NotMadeBy_eq, d_NotMadeBy_ne, d_ByRows_init, d__wall, d_is_whole, d_is_number, d_as_tuples, d_is_index, d_is_row, d_is_row_of, d_are_rows, d_need_list, d_sum_of, d_still_rows, d_stepper_of, d_as_table, d_is_grid, d_need_row, d_numbers_by, d_greatest_divisor, d_fractions_by, d_made_by, d_unit_row, d_need_by, d_need_question, d_made_or_not_by, d_made_by_or_not, d_are_leftovers, d_are_same_by, d_made_by_holds, d_does_divide, d_not_made_by_holds, d__law_pen, d__law_draw, d__law_pick, d__law_shuffled, d__law_is, d__law_whole, d__law_sum, d__law_drawn_row, d__law_drawn_rows, d__law_is_row, d__law_multiple, d__law_are_left, d_law]
def fk : List (Str × Option Str) := [(("List" : Str), some ("__init__" : Str)), (("List" : Str), some ("__eq__" : Str)), (("List" : Str), some ("__ne__" : Str)), (("Stepper" : Str), some ("__init__" : Str)), (("Stepper" : Str), some ("cleared" : Str)), (("Stepper" : Str), some ("places" : Str)), (("Stepper" : Str), some ("take" : Str)), (("Stepper" : Str), some ("exchange" : Str)), (("Stepper" : Str), some ("form" : Str)), (("Stepper" : Str), some ("rest" : Str)), (("Stepper" : Str), some ("lowered" : Str)), (("Made" : Str), some ("__init__" : Str)), (("Made" : Str), some ("__eq__" : Str)), (("Made" : Str), some ("__ne__" : Str)), (("NotMade" : Str), some ("__init__" : Str)), (("NotMade" : Str), some ("__eq__" : Str)), (("NotMade" : Str), some ("__ne__" : Str)), (("MadeBy" : Str), some ("__init__" : Str)), (("MadeBy" : Str), some ("__eq__" : Str)), (("MadeBy" : Str), some ("__ne__" : Str)), (("NotMadeBy" : Str), some ("__init__" : Str)), (("NotMadeBy" : Str), some ("__eq__" : Str)), (("NotMadeBy" : Str), some ("__ne__" : Str)), (("ByRows" : Str), some ("__init__" : Str)), (("_wall" : Str), none), (("is_whole" : Str), none), (("is_number" : Str), none), (("as_tuples" : Str), none), (("is_index" : Str), none), (("is_row" : Str), none), (("is_row_of" : Str), none), (("are_rows" : Str), none), (("need_list" : Str), none), (("sum_of" : Str), none), (("still_rows" : Str), none), (("stepper_of" : Str), none), (("as_table" : Str), none), (("is_grid" : Str), none), (("need_row" : Str), none), (("numbers_by" : Str), none), (("greatest_divisor" : Str), none), (("fractions_by" : Str), none), (("made_by" : Str), none), (("unit_row" : Str), none), (("need_by" : Str), none), (("need_question" : Str), none), (("made_or_not_by" : Str), none), (("made_by_or_not" : Str), none), (("are_leftovers" : Str), none), (("are_same_by" : Str), none), (("made_by_holds" : Str), none), (("does_divide" : Str), none), (("not_made_by_holds" : Str), none), (("_law_pen" : Str), none), (("_law_draw" : Str), none), (("_law_pick" : Str), none), (("_law_shuffled" : Str), none), (("_law_is" : Str), none), (("_law_whole" : Str), none), (("_law_sum" : Str), none), (("_law_drawn_row" : Str), none), (("_law_drawn_rows" : Str), none), (("_law_is_row" : Str), none), (("_law_multiple" : Str), none), (("_law_are_left" : Str), none), (("law" : Str), none)]
def tf : List (Str × Option Str) := [(("Stepper" : Str), some ("cleared" : Str))]
def cn : List Str := ["List", "Stepper", "Made", "NotMade", "MadeBy", "NotMadeBy", "ByRows"]
theorem sc_List_init : FnScope ["self", "width", "rows", "known"] ["self", "width", "rows"] d_List_init.scope := ⟨rfl, rfl, rfl, by decide +kernel, rfl, by decide +kernel, by decide +kernel⟩
theorem im_List_init (C : Calls) : compB Γ C ⟨["self", "width", "rows", "known"], d_List_init.scope, fnT, false⟩ d_List_init.body = b_List_init C := by kernel_rfl
theorem sc_List_eq : FnScope ["self", "other"] ["self", "other"] d_List_eq.scope := ⟨rfl, rfl, rfl, by decide +kernel, rfl, by decide +kernel, by decide +kernel⟩
theorem im_List_eq (C : Calls) : compB Γ C ⟨["self", "other"], d_List_eq.scope, fnT, false⟩ d_List_eq.body = b_List_eq C := by kernel_rfl
theorem sc_List_ne : FnScope ["self", "other"] ["self", "other"] d_List_ne.scope := ⟨rfl, rfl, rfl, by decide +kernel, rfl, by decide +kernel, by decide +kernel⟩
theorem im_List_ne (C : Calls) : compB Γ C ⟨["self", "other"], d_List_ne.scope, fnT, false⟩ d_List_ne.body = b_List_ne C := by kernel_rfl
theorem sc_Stepper_init : FnScope ["self", "rows", "width", "column", "row"] ["self", "rows", "width"] d_Stepper_init.scope := ⟨rfl, rfl, rfl, by decide +kernel, rfl, by decide +kernel, by decide +kernel⟩
theorem im_Stepper_init (C : Calls) : compB Γ C ⟨["self", "rows", "width", "column", "row"], d_Stepper_init.scope, fnT, false⟩ d_Stepper_init.body = b_Stepper_init C := by kernel_rfl
theorem sc_Stepper_cleared : FnScope ["self", "column", "step", "places", "least", "at", "one"] ["self", "column"] d_Stepper_cleared.scope := ⟨rfl, rfl, rfl, by decide +kernel, rfl, by decide +kernel, by decide +kernel⟩
theorem im_Stepper_cleared (C : Calls) : compB Γ C ⟨["self", "column", "step", "places", "least", "at", "one"], d_Stepper_cleared.scope, fnT, true⟩ d_Stepper_cleared.body = b_Stepper_cleared C := by kernel_rfl
theorem sc_Stepper_places : FnScope ["self", "column", "step", "at"] ["self", "column", "step"] d_Stepper_places.scope := ⟨rfl, rfl, rfl, by decide +kernel, rfl, by decide +kernel, by decide +kernel⟩
theorem im_Stepper_places (C : Calls) : compB Γ C ⟨["self", "column", "step", "at"], d_Stepper_places.scope, fnT, false⟩ d_Stepper_places.body = b_Stepper_places C := by kernel_rfl
theorem sc_Stepper_take : FnScope ["self", "at", "other", "number", "one", "two"] ["self", "at", "other", "number"] d_Stepper_take.scope := ⟨rfl, rfl, rfl, by decide +kernel, rfl, by decide +kernel, by decide +kernel⟩
theorem im_Stepper_take (C : Calls) : compB Γ C ⟨["self", "at", "other", "number", "one", "two"], d_Stepper_take.scope, fnT, false⟩ d_Stepper_take.body = b_Stepper_take C := by kernel_rfl
theorem sc_Stepper_exchange : FnScope ["self", "at", "other"] ["self", "at", "other"] d_Stepper_exchange.scope := ⟨rfl, rfl, rfl, by decide +kernel, rfl, by decide +kernel, by decide +kernel⟩
theorem im_Stepper_exchange (C : Calls) : compB Γ C ⟨["self", "at", "other"], d_Stepper_exchange.scope, fnT, false⟩ d_Stepper_exchange.body = b_Stepper_exchange C := by kernel_rfl
theorem sc_Stepper_form : FnScope ["self"] ["self"] d_Stepper_form.scope := ⟨rfl, rfl, rfl, by decide +kernel, rfl, by decide +kernel, by decide +kernel⟩
theorem im_Stepper_form (C : Calls) : compB Γ C ⟨["self"], d_Stepper_form.scope, fnT, false⟩ d_Stepper_form.body = b_Stepper_form C := by kernel_rfl
theorem sc_Stepper_rest : FnScope ["self"] ["self"] d_Stepper_rest.scope := ⟨rfl, rfl, rfl, by decide +kernel, rfl, by decide +kernel, by decide +kernel⟩
theorem im_Stepper_rest (C : Calls) : compB Γ C ⟨["self"], d_Stepper_rest.scope, fnT, false⟩ d_Stepper_rest.body = b_Stepper_rest C := by kernel_rfl
theorem sc_Stepper_lowered : FnScope ["self", "row", "numbers", "left", "step", "column", "own", "number", "one", "other"] ["self", "row"] d_Stepper_lowered.scope := ⟨rfl, rfl, rfl, by decide +kernel, rfl, by decide +kernel, by decide +kernel⟩
theorem im_Stepper_lowered (C : Calls) : compB Γ C ⟨["self", "row", "numbers", "left", "step", "column", "own", "number", "one", "other"], d_Stepper_lowered.scope, fnT, false⟩ d_Stepper_lowered.body = b_Stepper_lowered C := by kernel_rfl
theorem sc_Made_init : FnScope ["self", "numbers"] ["self", "numbers"] d_Made_init.scope := ⟨rfl, rfl, rfl, by decide +kernel, rfl, by decide +kernel, by decide +kernel⟩
theorem im_Made_init (C : Calls) : compB Γ C ⟨["self", "numbers"], d_Made_init.scope, fnT, false⟩ d_Made_init.body = b_Made_init C := by kernel_rfl
theorem sc_Made_eq : FnScope ["self", "other"] ["self", "other"] d_Made_eq.scope := ⟨rfl, rfl, rfl, by decide +kernel, rfl, by decide +kernel, by decide +kernel⟩
theorem im_Made_eq (C : Calls) : compB Γ C ⟨["self", "other"], d_Made_eq.scope, fnT, false⟩ d_Made_eq.body = b_Made_eq C := by kernel_rfl
theorem sc_Made_ne : FnScope ["self", "other"] ["self", "other"] d_Made_ne.scope := ⟨rfl, rfl, rfl, by decide +kernel, rfl, by decide +kernel, by decide +kernel⟩
theorem im_Made_ne (C : Calls) : compB Γ C ⟨["self", "other"], d_Made_ne.scope, fnT, false⟩ d_Made_ne.body = b_Made_ne C := by kernel_rfl
theorem sc_NotMade_init : FnScope ["self", "tops", "bottom"] ["self", "tops", "bottom"] d_NotMade_init.scope := ⟨rfl, rfl, rfl, by decide +kernel, rfl, by decide +kernel, by decide +kernel⟩
theorem im_NotMade_init (C : Calls) : compB Γ C ⟨["self", "tops", "bottom"], d_NotMade_init.scope, fnT, false⟩ d_NotMade_init.body = b_NotMade_init C := by kernel_rfl
theorem sc_NotMade_eq : FnScope ["self", "other"] ["self", "other"] d_NotMade_eq.scope := ⟨rfl, rfl, rfl, by decide +kernel, rfl, by decide +kernel, by decide +kernel⟩
theorem im_NotMade_eq (C : Calls) : compB Γ C ⟨["self", "other"], d_NotMade_eq.scope, fnT, false⟩ d_NotMade_eq.body = b_NotMade_eq C := by kernel_rfl
theorem sc_NotMade_ne : FnScope ["self", "other"] ["self", "other"] d_NotMade_ne.scope := ⟨rfl, rfl, rfl, by decide +kernel, rfl, by decide +kernel, by decide +kernel⟩
theorem im_NotMade_ne (C : Calls) : compB Γ C ⟨["self", "other"], d_NotMade_ne.scope, fnT, false⟩ d_NotMade_ne.body = b_NotMade_ne C := by kernel_rfl
theorem sc_MadeBy_init : FnScope ["self", "numbers"] ["self", "numbers"] d_MadeBy_init.scope := ⟨rfl, rfl, rfl, by decide +kernel, rfl, by decide +kernel, by decide +kernel⟩
theorem im_MadeBy_init (C : Calls) : compB Γ C ⟨["self", "numbers"], d_MadeBy_init.scope, fnT, false⟩ d_MadeBy_init.body = b_MadeBy_init C := by kernel_rfl
theorem sc_MadeBy_eq : FnScope ["self", "other"] ["self", "other"] d_MadeBy_eq.scope := ⟨rfl, rfl, rfl, by decide +kernel, rfl, by decide +kernel, by decide +kernel⟩
theorem im_MadeBy_eq (C : Calls) : compB Γ C ⟨["self", "other"], d_MadeBy_eq.scope, fnT, false⟩ d_MadeBy_eq.body = b_MadeBy_eq C := by kernel_rfl
theorem sc_MadeBy_ne : FnScope ["self", "other"] ["self", "other"] d_MadeBy_ne.scope := ⟨rfl, rfl, rfl, by decide +kernel, rfl, by decide +kernel, by decide +kernel⟩
theorem im_MadeBy_ne (C : Calls) : compB Γ C ⟨["self", "other"], d_MadeBy_ne.scope, fnT, false⟩ d_MadeBy_ne.body = b_MadeBy_ne C := by kernel_rfl
theorem sc_NotMadeBy_init : FnScope ["self", "tops"] ["self", "tops"] d_NotMadeBy_init.scope := ⟨rfl, rfl, rfl, by decide +kernel, rfl, by decide +kernel, by decide +kernel⟩
theorem im_NotMadeBy_init (C : Calls) : compB Γ C ⟨["self", "tops"], d_NotMadeBy_init.scope, fnT, false⟩ d_NotMadeBy_init.body = b_NotMadeBy_init C := by kernel_rfl
theorem sc_NotMadeBy_eq : FnScope ["self", "other"] ["self", "other"] d_NotMadeBy_eq.scope := ⟨rfl, rfl, rfl, by decide +kernel, rfl, by decide +kernel, by decide +kernel⟩
theorem im_NotMadeBy_eq (C : Calls) : compB Γ C ⟨["self", "other"], d_NotMadeBy_eq.scope, fnT, false⟩ d_NotMadeBy_eq.body = b_NotMadeBy_eq C := by kernel_rfl
theorem sc_NotMadeBy_ne : FnScope ["self", "other"] ["self", "other"] d_NotMadeBy_ne.scope := ⟨rfl, rfl, rfl, by decide +kernel, rfl, by decide +kernel, by decide +kernel⟩
theorem im_NotMadeBy_ne (C : Calls) : compB Γ C ⟨["self", "other"], d_NotMadeBy_ne.scope, fnT, false⟩ d_NotMadeBy_ne.body = b_NotMadeBy_ne C := by kernel_rfl
theorem sc_ByRows_init : FnScope ["self", "rows", "width", "by", "at"] ["self", "rows", "width", "by"] d_ByRows_init.scope := ⟨rfl, rfl, rfl, by decide +kernel, rfl, by decide +kernel, by decide +kernel⟩
theorem im_ByRows_init (C : Calls) : compB Γ C ⟨["self", "rows", "width", "by", "at"], d_ByRows_init.scope, fnT, false⟩ d_ByRows_init.body = b_ByRows_init C := by kernel_rfl
theorem sc__wall : FnScope ["k"] ["k"] d__wall.scope := ⟨rfl, rfl, rfl, by decide +kernel, rfl, by decide +kernel, by decide +kernel⟩
theorem im__wall (C : Calls) : compB Γ C ⟨["k"], d__wall.scope, fnT, false⟩ d__wall.body = b__wall C := by kernel_rfl
theorem sc_is_whole : FnScope ["value"] ["value"] d_is_whole.scope := ⟨rfl, rfl, rfl, by decide +kernel, rfl, by decide +kernel, by decide +kernel⟩
theorem im_is_whole (C : Calls) : compB Γ C ⟨["value"], d_is_whole.scope, fnT, false⟩ d_is_whole.body = b_is_whole C := by kernel_rfl
theorem sc_is_number : FnScope ["value"] ["value"] d_is_number.scope := ⟨rfl, rfl, rfl, by decide +kernel, rfl, by decide +kernel, by decide +kernel⟩
theorem im_is_number (C : Calls) : compB Γ C ⟨["value"], d_is_number.scope, fnT, false⟩ d_is_number.body = b_is_number C := by kernel_rfl
theorem sc_as_tuples : FnScope ["value", "line", "done", "source", "at", "found"] ["value"] d_as_tuples.scope := ⟨rfl, rfl, rfl, by decide +kernel, rfl, by decide +kernel, by decide +kernel⟩
theorem im_as_tuples (C : Calls) : compB Γ C ⟨["value", "line", "done", "source", "at", "found"], d_as_tuples.scope, fnT, false⟩ d_as_tuples.body = b_as_tuples C := by kernel_rfl
theorem sc_is_index : FnScope ["value", "many"] ["value", "many"] d_is_index.scope := ⟨rfl, rfl, rfl, by decide +kernel, rfl, by decide +kernel, by decide +kernel⟩
theorem im_is_index (C : Calls) : compB Γ C ⟨["value", "many"], d_is_index.scope, fnT, false⟩ d_is_index.body = b_is_index C := by kernel_rfl
theorem sc_is_row : FnScope ["value", "one"] ["value"] d_is_row.scope := ⟨rfl, rfl, rfl, by decide +kernel, rfl, by decide +kernel, by decide +kernel⟩
theorem im_is_row (C : Calls) : compB Γ C ⟨["value", "one"], d_is_row.scope, fnT, false⟩ d_is_row.body = b_is_row C := by kernel_rfl
theorem sc_is_row_of : FnScope ["value", "width"] ["value", "width"] d_is_row_of.scope := ⟨rfl, rfl, rfl, by decide +kernel, rfl, by decide +kernel, by decide +kernel⟩
theorem im_is_row_of (C : Calls) : compB Γ C ⟨["value", "width"], d_is_row_of.scope, fnT, false⟩ d_is_row_of.body = b_is_row_of C := by kernel_rfl
theorem sc_are_rows : FnScope ["value", "width", "row"] ["value", "width"] d_are_rows.scope := ⟨rfl, rfl, rfl, by decide +kernel, rfl, by decide +kernel, by decide +kernel⟩
theorem im_are_rows (C : Calls) : compB Γ C ⟨["value", "width", "row"], d_are_rows.scope, fnT, false⟩ d_are_rows.body = b_are_rows C := by kernel_rfl
theorem sc_need_list : FnScope ["value"] ["value"] d_need_list.scope := ⟨rfl, rfl, rfl, by decide +kernel, rfl, by decide +kernel, by decide +kernel⟩
theorem im_need_list (C : Calls) : compB Γ C ⟨["value"], d_need_list.scope, fnT, false⟩ d_need_list.body = b_need_list C := by kernel_rfl
theorem sc_sum_of : FnScope ["numbers", "rows", "width", "found", "number", "row", "one", "other"] ["numbers", "rows", "width"] d_sum_of.scope := ⟨rfl, rfl, rfl, by decide +kernel, rfl, by decide +kernel, by decide +kernel⟩
theorem im_sum_of (C : Calls) : compB Γ C ⟨["numbers", "rows", "width", "found", "number", "row", "one", "other"], d_sum_of.scope, fnT, false⟩ d_sum_of.body = b_sum_of C := by kernel_rfl
theorem sc_still_rows : FnScope ["many", "at", "place"] ["many"] d_still_rows.scope := ⟨rfl, rfl, rfl, by decide +kernel, rfl, by decide +kernel, by decide +kernel⟩
theorem im_still_rows (C : Calls) : compB Γ C ⟨["many", "at", "place"], d_still_rows.scope, fnT, false⟩ d_still_rows.body = b_still_rows C := by kernel_rfl
theorem sc_stepper_of : FnScope ["some"] ["some"] d_stepper_of.scope := ⟨rfl, rfl, rfl, by decide +kernel, rfl, by decide +kernel, by decide +kernel⟩
theorem im_stepper_of (C : Calls) : compB Γ C ⟨["some"], d_stepper_of.scope, fnT, false⟩ d_stepper_of.body = b_stepper_of C := by kernel_rfl
theorem sc_as_table : FnScope ["rows", "row"] ["rows"] d_as_table.scope := ⟨rfl, rfl, rfl, by decide +kernel, rfl, by decide +kernel, by decide +kernel⟩
theorem im_as_table (C : Calls) : compB Γ C ⟨["rows", "row"], d_as_table.scope, fnT, false⟩ d_as_table.body = b_as_table C := by kernel_rfl
theorem sc_is_grid : FnScope ["value", "many", "width", "row", "one"] ["value", "many", "width"] d_is_grid.scope := ⟨rfl, rfl, rfl, by decide +kernel, rfl, by decide +kernel, by decide +kernel⟩
theorem im_is_grid (C : Calls) : compB Γ C ⟨["value", "many", "width", "row", "one"], d_is_grid.scope, fnT, false⟩ d_is_grid.body = b_is_grid C := by kernel_rfl
theorem sc_need_row : FnScope ["some", "row", "known"] ["some", "row"] d_need_row.scope := ⟨rfl, rfl, rfl, by decide +kernel, rfl, by decide +kernel, by decide +kernel⟩
theorem im_need_row (C : Calls) : compB Γ C ⟨["some", "row", "known"], d_need_row.scope, fnT, false⟩ d_need_row.body = b_need_row C := by kernel_rfl
theorem sc_numbers_by : FnScope ["stepper", "picked", "many"] ["stepper", "picked", "many"] d_numbers_by.scope := ⟨rfl, rfl, rfl, by decide +kernel, rfl, by decide +kernel, by decide +kernel⟩
theorem im_numbers_by (C : Calls) : compB Γ C ⟨["stepper", "picked", "many"], d_numbers_by.scope, fnT, false⟩ d_numbers_by.body = b_numbers_by C := by kernel_rfl
theorem sc_greatest_divisor : FnScope ["one", "other"] ["one", "other"] d_greatest_divisor.scope := ⟨rfl, rfl, rfl, by decide +kernel, rfl, by decide +kernel, by decide +kernel⟩
theorem im_greatest_divisor (C : Calls) : compB Γ C ⟨["one", "other"], d_greatest_divisor.scope, fnT, false⟩ d_greatest_divisor.body = b_greatest_divisor C := by kernel_rfl
theorem sc_fractions_by : FnScope ["stepper", "left", "width", "column", "lead", "bottom", "tops", "ahead", "step", "own", "at", "told", "common", "top", "one"] ["stepper", "left", "width"] d_fractions_by.scope := ⟨rfl, rfl, rfl, by decide +kernel, rfl, by decide +kernel, by decide +kernel⟩
theorem im_fractions_by (C : Calls) : compB Γ C ⟨["stepper", "left", "width", "column", "lead", "bottom", "tops", "ahead", "step", "own", "at", "told", "common", "top", "one"], d_fractions_by.scope, fnT, false⟩ d_fractions_by.body = b_fractions_by C := by kernel_rfl
theorem sc_made_by : FnScope ["some", "row", "stepper", "picked", "left", "tops", "bottom"] ["some", "row"] d_made_by.scope := ⟨rfl, rfl, rfl, by decide +kernel, rfl, by decide +kernel, by decide +kernel⟩
theorem im_made_by (C : Calls) : compB Γ C ⟨["some", "row", "stepper", "picked", "left", "tops", "bottom"], d_made_by.scope, fnT, false⟩ d_made_by.body = b_made_by C := by kernel_rfl
theorem sc_unit_row : FnScope ["width", "at", "number", "place"] ["width", "at", "number"] d_unit_row.scope := ⟨rfl, rfl, rfl, by decide +kernel, rfl, by decide +kernel, by decide +kernel⟩
theorem im_unit_row (C : Calls) : compB Γ C ⟨["width", "at", "number", "place"], d_unit_row.scope, fnT, false⟩ d_unit_row.body = b_unit_row C := by kernel_rfl
theorem sc_need_by : FnScope ["by"] ["by"] d_need_by.scope := ⟨rfl, rfl, rfl, by decide +kernel, rfl, by decide +kernel, by decide +kernel⟩
theorem im_need_by (C : Calls) : compB Γ C ⟨["by"], d_need_by.scope, fnT, false⟩ d_need_by.body = b_need_by C := by kernel_rfl
theorem sc_need_question : FnScope ["some", "row", "by", "known"] ["some", "row", "by"] d_need_question.scope := ⟨rfl, rfl, rfl, by decide +kernel, rfl, by decide +kernel, by decide +kernel⟩
theorem im_need_question (C : Calls) : compB Γ C ⟨["some", "row", "by", "known"], d_need_question.scope, fnT, false⟩ d_need_question.body = b_need_question C := by kernel_rfl
theorem sc_made_or_not_by : FnScope ["rows", "width", "row", "by", "told", "number", "top"] ["rows", "width", "row", "by"] d_made_or_not_by.scope := ⟨rfl, rfl, rfl, by decide +kernel, rfl, by decide +kernel, by decide +kernel⟩
theorem im_made_or_not_by (C : Calls) : compB Γ C ⟨["rows", "width", "row", "by", "told", "number", "top"], d_made_or_not_by.scope, fnT, false⟩ d_made_or_not_by.body = b_made_or_not_by C := by kernel_rfl
theorem sc_made_by_or_not : FnScope ["some", "row", "by", "known"] ["some", "row", "by"] d_made_by_or_not.scope := ⟨rfl, rfl, rfl, by decide +kernel, rfl, by decide +kernel, by decide +kernel⟩
theorem im_made_by_or_not (C : Calls) : compB Γ C ⟨["some", "row", "by", "known"], d_made_by_or_not.scope, fnT, false⟩ d_made_by_or_not.body = b_made_by_or_not C := by kernel_rfl
theorem sc_are_leftovers : FnScope ["value", "many", "by", "one"] ["value", "many", "by"] d_are_leftovers.scope := ⟨rfl, rfl, rfl, by decide +kernel, rfl, by decide +kernel, by decide +kernel⟩
theorem im_are_leftovers (C : Calls) : compB Γ C ⟨["value", "many", "by", "one"], d_are_leftovers.scope, fnT, false⟩ d_are_leftovers.body = b_are_leftovers C := by kernel_rfl
theorem sc_are_same_by : FnScope ["one", "other", "by", "here", "there"] ["one", "other", "by"] d_are_same_by.scope := ⟨rfl, rfl, rfl, by decide +kernel, rfl, by decide +kernel, by decide +kernel⟩
theorem im_are_same_by (C : Calls) : compB Γ C ⟨["one", "other", "by", "here", "there"], d_are_same_by.scope, fnT, false⟩ d_are_same_by.body = b_are_same_by C := by kernel_rfl
theorem sc_made_by_holds : FnScope ["some", "row", "by", "value", "known"] ["some", "row", "by", "value"] d_made_by_holds.scope := ⟨rfl, rfl, rfl, by decide +kernel, rfl, by decide +kernel, by decide +kernel⟩
theorem im_made_by_holds (C : Calls) : compB Γ C ⟨["some", "row", "by", "value", "known"], d_made_by_holds.scope, fnT, false⟩ d_made_by_holds.body = b_made_by_holds C := by kernel_rfl
theorem sc_does_divide : FnScope ["tops", "row", "by", "top", "number"] ["tops", "row", "by"] d_does_divide.scope := ⟨rfl, rfl, rfl, by decide +kernel, rfl, by decide +kernel, by decide +kernel⟩
theorem im_does_divide (C : Calls) : compB Γ C ⟨["tops", "row", "by", "top", "number"], d_does_divide.scope, fnT, false⟩ d_does_divide.body = b_does_divide C := by kernel_rfl
theorem sc_not_made_by_holds : FnScope ["some", "row", "by", "value", "known", "own"] ["some", "row", "by", "value"] d_not_made_by_holds.scope := ⟨rfl, rfl, rfl, by decide +kernel, rfl, by decide +kernel, by decide +kernel⟩
theorem im_not_made_by_holds (C : Calls) : compB Γ C ⟨["some", "row", "by", "value", "known", "own"], d_not_made_by_holds.scope, fnT, false⟩ d_not_made_by_holds.body = b_not_made_by_holds C := by kernel_rfl
theorem sc__law_pen : FnScope ["script", "fold", "cell"] ["script"] d__law_pen.scope := ⟨rfl, rfl, rfl, by decide +kernel, rfl, by decide +kernel, by decide +kernel⟩
theorem im__law_pen (C : Calls) : compB Γ C ⟨["script", "fold", "cell"], d__law_pen.scope, fnT, false⟩ d__law_pen.body = b__law_pen C := by kernel_rfl
theorem sc__law_draw : FnScope ["pen", "many", "cell", "digit", "blend"] ["pen", "many"] d__law_draw.scope := ⟨rfl, rfl, rfl, by decide +kernel, rfl, by decide +kernel, by decide +kernel⟩
theorem im__law_draw (C : Calls) : compB Γ C ⟨["pen", "many", "cell", "digit", "blend"], d__law_draw.scope, fnT, false⟩ d__law_draw.body = b__law_draw C := by kernel_rfl
theorem sc__law_pick : FnScope ["pen", "some"] ["pen", "some"] d__law_pick.scope := ⟨rfl, rfl, rfl, by decide +kernel, rfl, by decide +kernel, by decide +kernel⟩
theorem im__law_pick (C : Calls) : compB Γ C ⟨["pen", "some"], d__law_pick.scope, fnT, false⟩ d__law_pick.body = b__law_pick C := by kernel_rfl
theorem sc__law_shuffled : FnScope ["pen", "some", "left", "found", "lap"] ["pen", "some"] d__law_shuffled.scope := ⟨rfl, rfl, rfl, by decide +kernel, rfl, by decide +kernel, by decide +kernel⟩
theorem im__law_shuffled (C : Calls) : compB Γ C ⟨["pen", "some", "left", "found", "lap"], d__law_shuffled.scope, fnT, false⟩ d__law_shuffled.body = b__law_shuffled C := by kernel_rfl
theorem sc__law_is : FnScope ["told", "due", "at"] ["told", "due"] d__law_is.scope := ⟨rfl, rfl, rfl, by decide +kernel, rfl, by decide +kernel, by decide +kernel⟩
theorem im__law_is (C : Calls) : compB Γ C ⟨["told", "due", "at"], d__law_is.scope, fnT, false⟩ d__law_is.body = b__law_is C := by kernel_rfl
theorem sc__law_whole : FnScope ["value"] ["value"] d__law_whole.scope := ⟨rfl, rfl, rfl, by decide +kernel, rfl, by decide +kernel, by decide +kernel⟩
theorem im__law_whole (C : Calls) : compB Γ C ⟨["value"], d__law_whole.scope, fnT, false⟩ d__law_whole.body = b__law_whole C := by kernel_rfl
theorem sc__law_sum : FnScope ["numbers", "rows", "width", "found", "number", "row", "one", "other"] ["numbers", "rows", "width"] d__law_sum.scope := ⟨rfl, rfl, rfl, by decide +kernel, rfl, by decide +kernel, by decide +kernel⟩
theorem im__law_sum (C : Calls) : compB Γ C ⟨["numbers", "rows", "width", "found", "number", "row", "one", "other"], d__law_sum.scope, fnT, false⟩ d__law_sum.body = b__law_sum C := by kernel_rfl
theorem sc__law_drawn_row : FnScope ["pen", "width", "size", "at"] ["pen", "width", "size"] d__law_drawn_row.scope := ⟨rfl, rfl, rfl, by decide +kernel, rfl, by decide +kernel, by decide +kernel⟩
theorem im__law_drawn_row (C : Calls) : compB Γ C ⟨["pen", "width", "size", "at"], d__law_drawn_row.scope, fnT, false⟩ d__law_drawn_row.body = b__law_drawn_row C := by kernel_rfl
theorem sc__law_drawn_rows : FnScope ["pen", "width", "most", "size", "rows", "lap", "row"] ["pen", "width", "most", "size"] d__law_drawn_rows.scope := ⟨rfl, rfl, rfl, by decide +kernel, rfl, by decide +kernel, by decide +kernel⟩
theorem im__law_drawn_rows (C : Calls) : compB Γ C ⟨["pen", "width", "most", "size", "rows", "lap", "row"], d__law_drawn_rows.scope, fnT, false⟩ d__law_drawn_rows.body = b__law_drawn_rows C := by kernel_rfl
theorem sc__law_is_row : FnScope ["value", "width", "one"] ["value", "width"] d__law_is_row.scope := ⟨rfl, rfl, rfl, by decide +kernel, rfl, by decide +kernel, by decide +kernel⟩
theorem im__law_is_row (C : Calls) : compB Γ C ⟨["value", "width", "one"], d__law_is_row.scope, fnT, false⟩ d__law_is_row.body = b__law_is_row C := by kernel_rfl
theorem sc__law_multiple : FnScope ["tops", "row", "bottom", "top", "one"] ["tops", "row", "bottom"] d__law_multiple.scope := ⟨rfl, rfl, rfl, by decide +kernel, rfl, by decide +kernel, by decide +kernel⟩
theorem im__law_multiple (C : Calls) : compB Γ C ⟨["tops", "row", "bottom", "top", "one"], d__law_multiple.scope, fnT, false⟩ d__law_multiple.body = b__law_multiple C := by kernel_rfl
theorem sc__law_are_left : FnScope ["value", "many", "by", "one"] ["value", "many", "by"] d__law_are_left.scope := ⟨rfl, rfl, rfl, by decide +kernel, rfl, by decide +kernel, by decide +kernel⟩
theorem im__law_are_left (C : Calls) : compB Γ C ⟨["value", "many", "by", "one"], d__law_are_left.scope, fnT, false⟩ d__law_are_left.body = b__law_are_left C := by kernel_rfl
theorem sc_law : FnScope ["script", "pen", "lap", "width", "by", "rows", "some", "row", "told", "turn", "own", "every", "value", "good", "one", "two", "line", "step", "other", "at"] ["script"] d_law.scope := ⟨rfl, rfl, rfl, by decide +kernel, rfl, by decide +kernel, by decide +kernel⟩
theorem im_law (C : Calls) : compB Γ C ⟨["script", "pen", "lap", "width", "by", "rows", "some", "row", "told", "turn", "own", "every", "value", "good", "one", "two", "line", "step", "other", "at"], d_law.scope, fnT, false⟩ d_law.body = b_law C := by kernel_rfl
section
variable {K : PySem.W.Frag}
theorem df_List_init (c : He.SaysD [] fnl K) (l3 : tabU K tf = true) : DefF Γ (gwOf Γ fk cn tf K) 0 ⟨["self", "width", "rows"], ["self", "width", "rows", "known"]⟩ b_List_init :=
  defF_of (d := d_List_init) rfl (c.def_ 0 rfl) rfl rfl sc_List_init (fun _ _ _ _ _ _ us hl => match us, hl with | [_, _, _], _ => rfl) im_List_init (fun z => Bool.noConfusion z)
theorem df_List_eq (c : He.SaysD [] fnl K) (l3 : tabU K tf = true) : DefF Γ (gwOf Γ fk cn tf K) 1 ⟨["self", "other"], ["self", "other"]⟩ b_List_eq :=
  defF_of (d := d_List_eq) rfl (c.def_ 1 rfl) rfl rfl sc_List_eq (fun _ _ _ _ _ _ us hl => match us, hl with | [_, _], _ => rfl) im_List_eq (fun z => Bool.noConfusion z)
theorem df_List_ne (c : He.SaysD [] fnl K) (l3 : tabU K tf = true) : DefF Γ (gwOf Γ fk cn tf K) 2 ⟨["self", "other"], ["self", "other"]⟩ b_List_ne :=
  defF_of (d := d_List_ne) rfl (c.def_ 2 rfl) rfl rfl sc_List_ne (fun _ _ _ _ _ _ us hl => match us, hl with | [_, _], _ => rfl) im_List_ne (fun z => Bool.noConfusion z)
theorem df_Stepper_init (c : He.SaysD [] fnl K) (l3 : tabU K tf = true) : DefF Γ (gwOf Γ fk cn tf K) 3 ⟨["self", "rows", "width"], ["self", "rows", "width", "column", "row"]⟩ b_Stepper_init :=
  defF_of (d := d_Stepper_init) rfl (c.def_ 3 rfl) rfl rfl sc_Stepper_init (fun _ _ _ _ _ _ us hl => match us, hl with | [_, _, _], _ => rfl) im_Stepper_init (fun z => Bool.noConfusion z)
theorem df_Stepper_cleared (c : He.SaysD [] fnl K) (l3 : tabU K tf = true) : DefF Γ (gwOf Γ fk cn tf K) 4 ⟨["self", "column"], ["self", "column", "step", "places", "least", "at", "one"]⟩ b_Stepper_cleared :=
  defF_of (d := d_Stepper_cleared) rfl (c.def_ 4 rfl) rfl rfl sc_Stepper_cleared (fun _ _ _ _ _ _ us hl => match us, hl with | [_, _], _ => rfl) im_Stepper_cleared (fun _ => ⟨by decide, by rfl, l3⟩)
theorem df_Stepper_places (c : He.SaysD [] fnl K) (l3 : tabU K tf = true) : DefF Γ (gwOf Γ fk cn tf K) 5 ⟨["self", "column", "step"], ["self", "column", "step", "at"]⟩ b_Stepper_places :=
  defF_of (d := d_Stepper_places) rfl (c.def_ 5 rfl) rfl rfl sc_Stepper_places (fun _ _ _ _ _ _ us hl => match us, hl with | [_, _, _], _ => rfl) im_Stepper_places (fun z => Bool.noConfusion z)
theorem df_Stepper_take (c : He.SaysD [] fnl K) (l3 : tabU K tf = true) : DefF Γ (gwOf Γ fk cn tf K) 6 ⟨["self", "at", "other", "number"], ["self", "at", "other", "number", "one", "two"]⟩ b_Stepper_take :=
  defF_of (d := d_Stepper_take) rfl (c.def_ 6 rfl) rfl rfl sc_Stepper_take (fun _ _ _ _ _ _ us hl => match us, hl with | [_, _, _, _], _ => rfl) im_Stepper_take (fun z => Bool.noConfusion z)
theorem df_Stepper_exchange (c : He.SaysD [] fnl K) (l3 : tabU K tf = true) : DefF Γ (gwOf Γ fk cn tf K) 7 ⟨["self", "at", "other"], ["self", "at", "other"]⟩ b_Stepper_exchange :=
  defF_of (d := d_Stepper_exchange) rfl (c.def_ 7 rfl) rfl rfl sc_Stepper_exchange (fun _ _ _ _ _ _ us hl => match us, hl with | [_, _, _], _ => rfl) im_Stepper_exchange (fun z => Bool.noConfusion z)
theorem df_Stepper_form (c : He.SaysD [] fnl K) (l3 : tabU K tf = true) : DefF Γ (gwOf Γ fk cn tf K) 8 ⟨["self"], ["self"]⟩ b_Stepper_form :=
  defF_of (d := d_Stepper_form) rfl (c.def_ 8 rfl) rfl rfl sc_Stepper_form (fun _ _ _ _ _ _ us hl => match us, hl with | [_], _ => rfl) im_Stepper_form (fun z => Bool.noConfusion z)
theorem df_Stepper_rest (c : He.SaysD [] fnl K) (l3 : tabU K tf = true) : DefF Γ (gwOf Γ fk cn tf K) 9 ⟨["self"], ["self"]⟩ b_Stepper_rest :=
  defF_of (d := d_Stepper_rest) rfl (c.def_ 9 rfl) rfl rfl sc_Stepper_rest (fun _ _ _ _ _ _ us hl => match us, hl with | [_], _ => rfl) im_Stepper_rest (fun z => Bool.noConfusion z)
theorem df_Stepper_lowered (c : He.SaysD [] fnl K) (l3 : tabU K tf = true) : DefF Γ (gwOf Γ fk cn tf K) 10 ⟨["self", "row"], ["self", "row", "numbers", "left", "step", "column", "own", "number", "one", "other"]⟩ b_Stepper_lowered :=
  defF_of (d := d_Stepper_lowered) rfl (c.def_ 10 rfl) rfl rfl sc_Stepper_lowered (fun _ _ _ _ _ _ us hl => match us, hl with | [_, _], _ => rfl) im_Stepper_lowered (fun z => Bool.noConfusion z)
theorem df_Made_init (c : He.SaysD [] fnl K) (l3 : tabU K tf = true) : DefF Γ (gwOf Γ fk cn tf K) 11 ⟨["self", "numbers"], ["self", "numbers"]⟩ b_Made_init :=
  defF_of (d := d_Made_init) rfl (c.def_ 11 rfl) rfl rfl sc_Made_init (fun _ _ _ _ _ _ us hl => match us, hl with | [_, _], _ => rfl) im_Made_init (fun z => Bool.noConfusion z)
theorem df_Made_eq (c : He.SaysD [] fnl K) (l3 : tabU K tf = true) : DefF Γ (gwOf Γ fk cn tf K) 12 ⟨["self", "other"], ["self", "other"]⟩ b_Made_eq :=
  defF_of (d := d_Made_eq) rfl (c.def_ 12 rfl) rfl rfl sc_Made_eq (fun _ _ _ _ _ _ us hl => match us, hl with | [_, _], _ => rfl) im_Made_eq (fun z => Bool.noConfusion z)
theorem df_Made_ne (c : He.SaysD [] fnl K) (l3 : tabU K tf = true) : DefF Γ (gwOf Γ fk cn tf K) 13 ⟨["self", "other"], ["self", "other"]⟩ b_Made_ne :=
  defF_of (d := d_Made_ne) rfl (c.def_ 13 rfl) rfl rfl sc_Made_ne (fun _ _ _ _ _ _ us hl => match us, hl with | [_, _], _ => rfl) im_Made_ne (fun z => Bool.noConfusion z)
theorem df_NotMade_init (c : He.SaysD [] fnl K) (l3 : tabU K tf = true) : DefF Γ (gwOf Γ fk cn tf K) 14 ⟨["self", "tops", "bottom"], ["self", "tops", "bottom"]⟩ b_NotMade_init :=
  defF_of (d := d_NotMade_init) rfl (c.def_ 14 rfl) rfl rfl sc_NotMade_init (fun _ _ _ _ _ _ us hl => match us, hl with | [_, _, _], _ => rfl) im_NotMade_init (fun z => Bool.noConfusion z)
theorem df_NotMade_eq (c : He.SaysD [] fnl K) (l3 : tabU K tf = true) : DefF Γ (gwOf Γ fk cn tf K) 15 ⟨["self", "other"], ["self", "other"]⟩ b_NotMade_eq :=
  defF_of (d := d_NotMade_eq) rfl (c.def_ 15 rfl) rfl rfl sc_NotMade_eq (fun _ _ _ _ _ _ us hl => match us, hl with | [_, _], _ => rfl) im_NotMade_eq (fun z => Bool.noConfusion z)
theorem df_NotMade_ne (c : He.SaysD [] fnl K) (l3 : tabU K tf = true) : DefF Γ (gwOf Γ fk cn tf K) 16 ⟨["self", "other"], ["self", "other"]⟩ b_NotMade_ne :=
  defF_of (d := d_NotMade_ne) rfl (c.def_ 16 rfl) rfl rfl sc_NotMade_ne (fun _ _ _ _ _ _ us hl => match us, hl with | [_, _], _ => rfl) im_NotMade_ne (fun z => Bool.noConfusion z)
theorem df_MadeBy_init (c : He.SaysD [] fnl K) (l3 : tabU K tf = true) : DefF Γ (gwOf Γ fk cn tf K) 17 ⟨["self", "numbers"], ["self", "numbers"]⟩ b_MadeBy_init :=
  defF_of (d := d_MadeBy_init) rfl (c.def_ 17 rfl) rfl rfl sc_MadeBy_init (fun _ _ _ _ _ _ us hl => match us, hl with | [_, _], _ => rfl) im_MadeBy_init (fun z => Bool.noConfusion z)
theorem df_MadeBy_eq (c : He.SaysD [] fnl K) (l3 : tabU K tf = true) : DefF Γ (gwOf Γ fk cn tf K) 18 ⟨["self", "other"], ["self", "other"]⟩ b_MadeBy_eq :=
  defF_of (d := d_MadeBy_eq) rfl (c.def_ 18 rfl) rfl rfl sc_MadeBy_eq (fun _ _ _ _ _ _ us hl => match us, hl with | [_, _], _ => rfl) im_MadeBy_eq (fun z => Bool.noConfusion z)
theorem df_MadeBy_ne (c : He.SaysD [] fnl K) (l3 : tabU K tf = true) : DefF Γ (gwOf Γ fk cn tf K) 19 ⟨["self", "other"], ["self", "other"]⟩ b_MadeBy_ne :=
  defF_of (d := d_MadeBy_ne) rfl (c.def_ 19 rfl) rfl rfl sc_MadeBy_ne (fun _ _ _ _ _ _ us hl => match us, hl with | [_, _], _ => rfl) im_MadeBy_ne (fun z => Bool.noConfusion z)
theorem df_NotMadeBy_init (c : He.SaysD [] fnl K) (l3 : tabU K tf = true) : DefF Γ (gwOf Γ fk cn tf K) 20 ⟨["self", "tops"], ["self", "tops"]⟩ b_NotMadeBy_init :=
  defF_of (d := d_NotMadeBy_init) rfl (c.def_ 20 rfl) rfl rfl sc_NotMadeBy_init (fun _ _ _ _ _ _ us hl => match us, hl with | [_, _], _ => rfl) im_NotMadeBy_init (fun z => Bool.noConfusion z)
theorem df_NotMadeBy_eq (c : He.SaysD [] fnl K) (l3 : tabU K tf = true) : DefF Γ (gwOf Γ fk cn tf K) 21 ⟨["self", "other"], ["self", "other"]⟩ b_NotMadeBy_eq :=
  defF_of (d := d_NotMadeBy_eq) rfl (c.def_ 21 rfl) rfl rfl sc_NotMadeBy_eq (fun _ _ _ _ _ _ us hl => match us, hl with | [_, _], _ => rfl) im_NotMadeBy_eq (fun z => Bool.noConfusion z)
theorem df_NotMadeBy_ne (c : He.SaysD [] fnl K) (l3 : tabU K tf = true) : DefF Γ (gwOf Γ fk cn tf K) 22 ⟨["self", "other"], ["self", "other"]⟩ b_NotMadeBy_ne :=
  defF_of (d := d_NotMadeBy_ne) rfl (c.def_ 22 rfl) rfl rfl sc_NotMadeBy_ne (fun _ _ _ _ _ _ us hl => match us, hl with | [_, _], _ => rfl) im_NotMadeBy_ne (fun z => Bool.noConfusion z)
theorem df_ByRows_init (c : He.SaysD [] fnl K) (l3 : tabU K tf = true) : DefF Γ (gwOf Γ fk cn tf K) 23 ⟨["self", "rows", "width", "by"], ["self", "rows", "width", "by", "at"]⟩ b_ByRows_init :=
  defF_of (d := d_ByRows_init) rfl (c.def_ 23 rfl) rfl rfl sc_ByRows_init (fun _ _ _ _ _ _ us hl => match us, hl with | [_, _, _, _], _ => rfl) im_ByRows_init (fun z => Bool.noConfusion z)
theorem df__wall (c : He.SaysD [] fnl K) (l3 : tabU K tf = true) : DefF Γ (gwOf Γ fk cn tf K) 24 ⟨["k"], ["k"]⟩ b__wall :=
  defF_of (d := d__wall) rfl (c.def_ 24 rfl) rfl rfl sc__wall (fun _ _ _ _ _ _ us hl => match us, hl with | [_], _ => rfl) im__wall (fun z => Bool.noConfusion z)
theorem df_is_whole (c : He.SaysD [] fnl K) (l3 : tabU K tf = true) : DefF Γ (gwOf Γ fk cn tf K) 25 ⟨["value"], ["value"]⟩ b_is_whole :=
  defF_of (d := d_is_whole) rfl (c.def_ 25 rfl) rfl rfl sc_is_whole (fun _ _ _ _ _ _ us hl => match us, hl with | [_], _ => rfl) im_is_whole (fun z => Bool.noConfusion z)
theorem df_is_number (c : He.SaysD [] fnl K) (l3 : tabU K tf = true) : DefF Γ (gwOf Γ fk cn tf K) 26 ⟨["value"], ["value"]⟩ b_is_number :=
  defF_of (d := d_is_number) rfl (c.def_ 26 rfl) rfl rfl sc_is_number (fun _ _ _ _ _ _ us hl => match us, hl with | [_], _ => rfl) im_is_number (fun z => Bool.noConfusion z)
theorem df_as_tuples (c : He.SaysD [] fnl K) (l3 : tabU K tf = true) : DefF Γ (gwOf Γ fk cn tf K) 27 ⟨["value"], ["value", "line", "done", "source", "at", "found"]⟩ b_as_tuples :=
  defF_of (d := d_as_tuples) rfl (c.def_ 27 rfl) rfl rfl sc_as_tuples (fun _ _ _ _ _ _ us hl => match us, hl with | [_], _ => rfl) im_as_tuples (fun z => Bool.noConfusion z)
theorem df_is_index (c : He.SaysD [] fnl K) (l3 : tabU K tf = true) : DefF Γ (gwOf Γ fk cn tf K) 28 ⟨["value", "many"], ["value", "many"]⟩ b_is_index :=
  defF_of (d := d_is_index) rfl (c.def_ 28 rfl) rfl rfl sc_is_index (fun _ _ _ _ _ _ us hl => match us, hl with | [_, _], _ => rfl) im_is_index (fun z => Bool.noConfusion z)
theorem df_is_row (c : He.SaysD [] fnl K) (l3 : tabU K tf = true) : DefF Γ (gwOf Γ fk cn tf K) 29 ⟨["value"], ["value", "one"]⟩ b_is_row :=
  defF_of (d := d_is_row) rfl (c.def_ 29 rfl) rfl rfl sc_is_row (fun _ _ _ _ _ _ us hl => match us, hl with | [_], _ => rfl) im_is_row (fun z => Bool.noConfusion z)
theorem df_is_row_of (c : He.SaysD [] fnl K) (l3 : tabU K tf = true) : DefF Γ (gwOf Γ fk cn tf K) 30 ⟨["value", "width"], ["value", "width"]⟩ b_is_row_of :=
  defF_of (d := d_is_row_of) rfl (c.def_ 30 rfl) rfl rfl sc_is_row_of (fun _ _ _ _ _ _ us hl => match us, hl with | [_, _], _ => rfl) im_is_row_of (fun z => Bool.noConfusion z)
theorem df_are_rows (c : He.SaysD [] fnl K) (l3 : tabU K tf = true) : DefF Γ (gwOf Γ fk cn tf K) 31 ⟨["value", "width"], ["value", "width", "row"]⟩ b_are_rows :=
  defF_of (d := d_are_rows) rfl (c.def_ 31 rfl) rfl rfl sc_are_rows (fun _ _ _ _ _ _ us hl => match us, hl with | [_, _], _ => rfl) im_are_rows (fun z => Bool.noConfusion z)
theorem df_need_list (c : He.SaysD [] fnl K) (l3 : tabU K tf = true) : DefF Γ (gwOf Γ fk cn tf K) 32 ⟨["value"], ["value"]⟩ b_need_list :=
  defF_of (d := d_need_list) rfl (c.def_ 32 rfl) rfl rfl sc_need_list (fun _ _ _ _ _ _ us hl => match us, hl with | [_], _ => rfl) im_need_list (fun z => Bool.noConfusion z)
theorem df_sum_of (c : He.SaysD [] fnl K) (l3 : tabU K tf = true) : DefF Γ (gwOf Γ fk cn tf K) 33 ⟨["numbers", "rows", "width"], ["numbers", "rows", "width", "found", "number", "row", "one", "other"]⟩ b_sum_of :=
  defF_of (d := d_sum_of) rfl (c.def_ 33 rfl) rfl rfl sc_sum_of (fun _ _ _ _ _ _ us hl => match us, hl with | [_, _, _], _ => rfl) im_sum_of (fun z => Bool.noConfusion z)
theorem df_still_rows (c : He.SaysD [] fnl K) (l3 : tabU K tf = true) : DefF Γ (gwOf Γ fk cn tf K) 34 ⟨["many"], ["many", "at", "place"]⟩ b_still_rows :=
  defF_of (d := d_still_rows) rfl (c.def_ 34 rfl) rfl rfl sc_still_rows (fun _ _ _ _ _ _ us hl => match us, hl with | [_], _ => rfl) im_still_rows (fun z => Bool.noConfusion z)
theorem df_stepper_of (c : He.SaysD [] fnl K) (l3 : tabU K tf = true) : DefF Γ (gwOf Γ fk cn tf K) 35 ⟨["some"], ["some"]⟩ b_stepper_of :=
  defF_of (d := d_stepper_of) rfl (c.def_ 35 rfl) rfl rfl sc_stepper_of (fun _ _ _ _ _ _ us hl => match us, hl with | [_], _ => rfl) im_stepper_of (fun z => Bool.noConfusion z)
theorem df_as_table (c : He.SaysD [] fnl K) (l3 : tabU K tf = true) : DefF Γ (gwOf Γ fk cn tf K) 36 ⟨["rows"], ["rows", "row"]⟩ b_as_table :=
  defF_of (d := d_as_table) rfl (c.def_ 36 rfl) rfl rfl sc_as_table (fun _ _ _ _ _ _ us hl => match us, hl with | [_], _ => rfl) im_as_table (fun z => Bool.noConfusion z)
theorem df_is_grid (c : He.SaysD [] fnl K) (l3 : tabU K tf = true) : DefF Γ (gwOf Γ fk cn tf K) 37 ⟨["value", "many", "width"], ["value", "many", "width", "row", "one"]⟩ b_is_grid :=
  defF_of (d := d_is_grid) rfl (c.def_ 37 rfl) rfl rfl sc_is_grid (fun _ _ _ _ _ _ us hl => match us, hl with | [_, _, _], _ => rfl) im_is_grid (fun z => Bool.noConfusion z)
theorem df_need_row (c : He.SaysD [] fnl K) (l3 : tabU K tf = true) : DefF Γ (gwOf Γ fk cn tf K) 38 ⟨["some", "row"], ["some", "row", "known"]⟩ b_need_row :=
  defF_of (d := d_need_row) rfl (c.def_ 38 rfl) rfl rfl sc_need_row (fun _ _ _ _ _ _ us hl => match us, hl with | [_, _], _ => rfl) im_need_row (fun z => Bool.noConfusion z)
theorem df_numbers_by (c : He.SaysD [] fnl K) (l3 : tabU K tf = true) : DefF Γ (gwOf Γ fk cn tf K) 39 ⟨["stepper", "picked", "many"], ["stepper", "picked", "many"]⟩ b_numbers_by :=
  defF_of (d := d_numbers_by) rfl (c.def_ 39 rfl) rfl rfl sc_numbers_by (fun _ _ _ _ _ _ us hl => match us, hl with | [_, _, _], _ => rfl) im_numbers_by (fun z => Bool.noConfusion z)
theorem df_greatest_divisor (c : He.SaysD [] fnl K) (l3 : tabU K tf = true) : DefF Γ (gwOf Γ fk cn tf K) 40 ⟨["one", "other"], ["one", "other"]⟩ b_greatest_divisor :=
  defF_of (d := d_greatest_divisor) rfl (c.def_ 40 rfl) rfl rfl sc_greatest_divisor (fun _ _ _ _ _ _ us hl => match us, hl with | [_, _], _ => rfl) im_greatest_divisor (fun z => Bool.noConfusion z)
theorem df_fractions_by (c : He.SaysD [] fnl K) (l3 : tabU K tf = true) : DefF Γ (gwOf Γ fk cn tf K) 41 ⟨["stepper", "left", "width"], ["stepper", "left", "width", "column", "lead", "bottom", "tops", "ahead", "step", "own", "at", "told", "common", "top", "one"]⟩ b_fractions_by :=
  defF_of (d := d_fractions_by) rfl (c.def_ 41 rfl) rfl rfl sc_fractions_by (fun _ _ _ _ _ _ us hl => match us, hl with | [_, _, _], _ => rfl) im_fractions_by (fun z => Bool.noConfusion z)
theorem df_made_by (c : He.SaysD [] fnl K) (l3 : tabU K tf = true) : DefF Γ (gwOf Γ fk cn tf K) 42 ⟨["some", "row"], ["some", "row", "stepper", "picked", "left", "tops", "bottom"]⟩ b_made_by :=
  defF_of (d := d_made_by) rfl (c.def_ 42 rfl) rfl rfl sc_made_by (fun _ _ _ _ _ _ us hl => match us, hl with | [_, _], _ => rfl) im_made_by (fun z => Bool.noConfusion z)
theorem df_unit_row (c : He.SaysD [] fnl K) (l3 : tabU K tf = true) : DefF Γ (gwOf Γ fk cn tf K) 43 ⟨["width", "at", "number"], ["width", "at", "number", "place"]⟩ b_unit_row :=
  defF_of (d := d_unit_row) rfl (c.def_ 43 rfl) rfl rfl sc_unit_row (fun _ _ _ _ _ _ us hl => match us, hl with | [_, _, _], _ => rfl) im_unit_row (fun z => Bool.noConfusion z)
theorem df_need_by (c : He.SaysD [] fnl K) (l3 : tabU K tf = true) : DefF Γ (gwOf Γ fk cn tf K) 44 ⟨["by"], ["by"]⟩ b_need_by :=
  defF_of (d := d_need_by) rfl (c.def_ 44 rfl) rfl rfl sc_need_by (fun _ _ _ _ _ _ us hl => match us, hl with | [_], _ => rfl) im_need_by (fun z => Bool.noConfusion z)
theorem df_need_question (c : He.SaysD [] fnl K) (l3 : tabU K tf = true) : DefF Γ (gwOf Γ fk cn tf K) 45 ⟨["some", "row", "by"], ["some", "row", "by", "known"]⟩ b_need_question :=
  defF_of (d := d_need_question) rfl (c.def_ 45 rfl) rfl rfl sc_need_question (fun _ _ _ _ _ _ us hl => match us, hl with | [_, _, _], _ => rfl) im_need_question (fun z => Bool.noConfusion z)
theorem df_made_or_not_by (c : He.SaysD [] fnl K) (l3 : tabU K tf = true) : DefF Γ (gwOf Γ fk cn tf K) 46 ⟨["rows", "width", "row", "by"], ["rows", "width", "row", "by", "told", "number", "top"]⟩ b_made_or_not_by :=
  defF_of (d := d_made_or_not_by) rfl (c.def_ 46 rfl) rfl rfl sc_made_or_not_by (fun _ _ _ _ _ _ us hl => match us, hl with | [_, _, _, _], _ => rfl) im_made_or_not_by (fun z => Bool.noConfusion z)
theorem df_made_by_or_not (c : He.SaysD [] fnl K) (l3 : tabU K tf = true) : DefF Γ (gwOf Γ fk cn tf K) 47 ⟨["some", "row", "by"], ["some", "row", "by", "known"]⟩ b_made_by_or_not :=
  defF_of (d := d_made_by_or_not) rfl (c.def_ 47 rfl) rfl rfl sc_made_by_or_not (fun _ _ _ _ _ _ us hl => match us, hl with | [_, _, _], _ => rfl) im_made_by_or_not (fun z => Bool.noConfusion z)
theorem df_are_leftovers (c : He.SaysD [] fnl K) (l3 : tabU K tf = true) : DefF Γ (gwOf Γ fk cn tf K) 48 ⟨["value", "many", "by"], ["value", "many", "by", "one"]⟩ b_are_leftovers :=
  defF_of (d := d_are_leftovers) rfl (c.def_ 48 rfl) rfl rfl sc_are_leftovers (fun _ _ _ _ _ _ us hl => match us, hl with | [_, _, _], _ => rfl) im_are_leftovers (fun z => Bool.noConfusion z)
theorem df_are_same_by (c : He.SaysD [] fnl K) (l3 : tabU K tf = true) : DefF Γ (gwOf Γ fk cn tf K) 49 ⟨["one", "other", "by"], ["one", "other", "by", "here", "there"]⟩ b_are_same_by :=
  defF_of (d := d_are_same_by) rfl (c.def_ 49 rfl) rfl rfl sc_are_same_by (fun _ _ _ _ _ _ us hl => match us, hl with | [_, _, _], _ => rfl) im_are_same_by (fun z => Bool.noConfusion z)
theorem df_made_by_holds (c : He.SaysD [] fnl K) (l3 : tabU K tf = true) : DefF Γ (gwOf Γ fk cn tf K) 50 ⟨["some", "row", "by", "value"], ["some", "row", "by", "value", "known"]⟩ b_made_by_holds :=
  defF_of (d := d_made_by_holds) rfl (c.def_ 50 rfl) rfl rfl sc_made_by_holds (fun _ _ _ _ _ _ us hl => match us, hl with | [_, _, _, _], _ => rfl) im_made_by_holds (fun z => Bool.noConfusion z)
theorem df_does_divide (c : He.SaysD [] fnl K) (l3 : tabU K tf = true) : DefF Γ (gwOf Γ fk cn tf K) 51 ⟨["tops", "row", "by"], ["tops", "row", "by", "top", "number"]⟩ b_does_divide :=
  defF_of (d := d_does_divide) rfl (c.def_ 51 rfl) rfl rfl sc_does_divide (fun _ _ _ _ _ _ us hl => match us, hl with | [_, _, _], _ => rfl) im_does_divide (fun z => Bool.noConfusion z)
theorem df_not_made_by_holds (c : He.SaysD [] fnl K) (l3 : tabU K tf = true) : DefF Γ (gwOf Γ fk cn tf K) 52 ⟨["some", "row", "by", "value"], ["some", "row", "by", "value", "known", "own"]⟩ b_not_made_by_holds :=
  defF_of (d := d_not_made_by_holds) rfl (c.def_ 52 rfl) rfl rfl sc_not_made_by_holds (fun _ _ _ _ _ _ us hl => match us, hl with | [_, _, _, _], _ => rfl) im_not_made_by_holds (fun z => Bool.noConfusion z)
theorem df__law_pen (c : He.SaysD [] fnl K) (l3 : tabU K tf = true) : DefF Γ (gwOf Γ fk cn tf K) 53 ⟨["script"], ["script", "fold", "cell"]⟩ b__law_pen :=
  defF_of (d := d__law_pen) rfl (c.def_ 53 rfl) rfl rfl sc__law_pen (fun _ _ _ _ _ _ us hl => match us, hl with | [_], _ => rfl) im__law_pen (fun z => Bool.noConfusion z)
theorem df__law_draw (c : He.SaysD [] fnl K) (l3 : tabU K tf = true) : DefF Γ (gwOf Γ fk cn tf K) 54 ⟨["pen", "many"], ["pen", "many", "cell", "digit", "blend"]⟩ b__law_draw :=
  defF_of (d := d__law_draw) rfl (c.def_ 54 rfl) rfl rfl sc__law_draw (fun _ _ _ _ _ _ us hl => match us, hl with | [_, _], _ => rfl) im__law_draw (fun z => Bool.noConfusion z)
theorem df__law_pick (c : He.SaysD [] fnl K) (l3 : tabU K tf = true) : DefF Γ (gwOf Γ fk cn tf K) 55 ⟨["pen", "some"], ["pen", "some"]⟩ b__law_pick :=
  defF_of (d := d__law_pick) rfl (c.def_ 55 rfl) rfl rfl sc__law_pick (fun _ _ _ _ _ _ us hl => match us, hl with | [_, _], _ => rfl) im__law_pick (fun z => Bool.noConfusion z)
theorem df__law_shuffled (c : He.SaysD [] fnl K) (l3 : tabU K tf = true) : DefF Γ (gwOf Γ fk cn tf K) 56 ⟨["pen", "some"], ["pen", "some", "left", "found", "lap"]⟩ b__law_shuffled :=
  defF_of (d := d__law_shuffled) rfl (c.def_ 56 rfl) rfl rfl sc__law_shuffled (fun _ _ _ _ _ _ us hl => match us, hl with | [_, _], _ => rfl) im__law_shuffled (fun z => Bool.noConfusion z)
theorem df__law_is (c : He.SaysD [] fnl K) (l3 : tabU K tf = true) : DefF Γ (gwOf Γ fk cn tf K) 57 ⟨["told", "due"], ["told", "due", "at"]⟩ b__law_is :=
  defF_of (d := d__law_is) rfl (c.def_ 57 rfl) rfl rfl sc__law_is (fun _ _ _ _ _ _ us hl => match us, hl with | [_, _], _ => rfl) im__law_is (fun z => Bool.noConfusion z)
theorem df__law_whole (c : He.SaysD [] fnl K) (l3 : tabU K tf = true) : DefF Γ (gwOf Γ fk cn tf K) 58 ⟨["value"], ["value"]⟩ b__law_whole :=
  defF_of (d := d__law_whole) rfl (c.def_ 58 rfl) rfl rfl sc__law_whole (fun _ _ _ _ _ _ us hl => match us, hl with | [_], _ => rfl) im__law_whole (fun z => Bool.noConfusion z)
theorem df__law_sum (c : He.SaysD [] fnl K) (l3 : tabU K tf = true) : DefF Γ (gwOf Γ fk cn tf K) 59 ⟨["numbers", "rows", "width"], ["numbers", "rows", "width", "found", "number", "row", "one", "other"]⟩ b__law_sum :=
  defF_of (d := d__law_sum) rfl (c.def_ 59 rfl) rfl rfl sc__law_sum (fun _ _ _ _ _ _ us hl => match us, hl with | [_, _, _], _ => rfl) im__law_sum (fun z => Bool.noConfusion z)
theorem df__law_drawn_row (c : He.SaysD [] fnl K) (l3 : tabU K tf = true) : DefF Γ (gwOf Γ fk cn tf K) 60 ⟨["pen", "width", "size"], ["pen", "width", "size", "at"]⟩ b__law_drawn_row :=
  defF_of (d := d__law_drawn_row) rfl (c.def_ 60 rfl) rfl rfl sc__law_drawn_row (fun _ _ _ _ _ _ us hl => match us, hl with | [_, _, _], _ => rfl) im__law_drawn_row (fun z => Bool.noConfusion z)
theorem df__law_drawn_rows (c : He.SaysD [] fnl K) (l3 : tabU K tf = true) : DefF Γ (gwOf Γ fk cn tf K) 61 ⟨["pen", "width", "most", "size"], ["pen", "width", "most", "size", "rows", "lap", "row"]⟩ b__law_drawn_rows :=
  defF_of (d := d__law_drawn_rows) rfl (c.def_ 61 rfl) rfl rfl sc__law_drawn_rows (fun _ _ _ _ _ _ us hl => match us, hl with | [_, _, _, _], _ => rfl) im__law_drawn_rows (fun z => Bool.noConfusion z)
theorem df__law_is_row (c : He.SaysD [] fnl K) (l3 : tabU K tf = true) : DefF Γ (gwOf Γ fk cn tf K) 62 ⟨["value", "width"], ["value", "width", "one"]⟩ b__law_is_row :=
  defF_of (d := d__law_is_row) rfl (c.def_ 62 rfl) rfl rfl sc__law_is_row (fun _ _ _ _ _ _ us hl => match us, hl with | [_, _], _ => rfl) im__law_is_row (fun z => Bool.noConfusion z)
theorem df__law_multiple (c : He.SaysD [] fnl K) (l3 : tabU K tf = true) : DefF Γ (gwOf Γ fk cn tf K) 63 ⟨["tops", "row", "bottom"], ["tops", "row", "bottom", "top", "one"]⟩ b__law_multiple :=
  defF_of (d := d__law_multiple) rfl (c.def_ 63 rfl) rfl rfl sc__law_multiple (fun _ _ _ _ _ _ us hl => match us, hl with | [_, _, _], _ => rfl) im__law_multiple (fun z => Bool.noConfusion z)
theorem df__law_are_left (c : He.SaysD [] fnl K) (l3 : tabU K tf = true) : DefF Γ (gwOf Γ fk cn tf K) 64 ⟨["value", "many", "by"], ["value", "many", "by", "one"]⟩ b__law_are_left :=
  defF_of (d := d__law_are_left) rfl (c.def_ 64 rfl) rfl rfl sc__law_are_left (fun _ _ _ _ _ _ us hl => match us, hl with | [_, _, _], _ => rfl) im__law_are_left (fun z => Bool.noConfusion z)
theorem df_law (c : He.SaysD [] fnl K) (l3 : tabU K tf = true) : DefF Γ (gwOf Γ fk cn tf K) 65 ⟨["script"], ["script", "pen", "lap", "width", "by", "rows", "some", "row", "told", "turn", "own", "every", "value", "good", "one", "two", "line", "step", "other", "at"]⟩ b_law :=
  defF_of (d := d_law) rfl (c.def_ 65 rfl) rfl rfl sc_law (fun _ _ _ _ _ _ us hl => match us, hl with | [_], _ => rfl) im_law (fun z => Bool.noConfusion z)
end
theorem defs_ok {K : PySem.W.Frag} (c : He.SaysD [] fnl K) (l3 : tabU K tf = true) : ∀ (i : Nat) f, Γ.fns[i]? = some f → ∃ b, bs[i]? = some b ∧ DefF Γ (gwOf Γ fk cn tf K) i f b
  | 0, _, h => by cases h; exact ⟨_, rfl, df_List_init c l3⟩
  | 1, _, h => by cases h; exact ⟨_, rfl, df_List_eq c l3⟩
  | 2, _, h => by cases h; exact ⟨_, rfl, df_List_ne c l3⟩
  | 3, _, h => by cases h; exact ⟨_, rfl, df_Stepper_init c l3⟩
  | 4, _, h => by cases h; exact ⟨_, rfl, df_Stepper_cleared c l3⟩
  | 5, _, h => by cases h; exact ⟨_, rfl, df_Stepper_places c l3⟩
  | 6, _, h => by cases h; exact ⟨_, rfl, df_Stepper_take c l3⟩
  | 7, _, h => by cases h; exact ⟨_, rfl, df_Stepper_exchange c l3⟩
  | 8, _, h => by cases h; exact ⟨_, rfl, df_Stepper_form c l3⟩
  | 9, _, h => by cases h; exact ⟨_, rfl, df_Stepper_rest c l3⟩
  | 10, _, h => by cases h; exact ⟨_, rfl, df_Stepper_lowered c l3⟩
  | 11, _, h => by cases h; exact ⟨_, rfl, df_Made_init c l3⟩
  | 12, _, h => by cases h; exact ⟨_, rfl, df_Made_eq c l3⟩
  | 13, _, h => by cases h; exact ⟨_, rfl, df_Made_ne c l3⟩
  | 14, _, h => by cases h; exact ⟨_, rfl, df_NotMade_init c l3⟩
  | 15, _, h => by cases h; exact ⟨_, rfl, df_NotMade_eq c l3⟩
  | 16, _, h => by cases h; exact ⟨_, rfl, df_NotMade_ne c l3⟩
  | 17, _, h => by cases h; exact ⟨_, rfl, df_MadeBy_init c l3⟩
  | 18, _, h => by cases h; exact ⟨_, rfl, df_MadeBy_eq c l3⟩
  | 19, _, h => by cases h; exact ⟨_, rfl, df_MadeBy_ne c l3⟩
  | 20, _, h => by cases h; exact ⟨_, rfl, df_NotMadeBy_init c l3⟩
  | 21, _, h => by cases h; exact ⟨_, rfl, df_NotMadeBy_eq c l3⟩
  | 22, _, h => by cases h; exact ⟨_, rfl, df_NotMadeBy_ne c l3⟩
  | 23, _, h => by cases h; exact ⟨_, rfl, df_ByRows_init c l3⟩
  | 24, _, h => by cases h; exact ⟨_, rfl, df__wall c l3⟩
  | 25, _, h => by cases h; exact ⟨_, rfl, df_is_whole c l3⟩
  | 26, _, h => by cases h; exact ⟨_, rfl, df_is_number c l3⟩
  | 27, _, h => by cases h; exact ⟨_, rfl, df_as_tuples c l3⟩
  | 28, _, h => by cases h; exact ⟨_, rfl, df_is_index c l3⟩
  | 29, _, h => by cases h; exact ⟨_, rfl, df_is_row c l3⟩
  | 30, _, h => by cases h; exact ⟨_, rfl, df_is_row_of c l3⟩
  | 31, _, h => by cases h; exact ⟨_, rfl, df_are_rows c l3⟩
  | 32, _, h => by cases h; exact ⟨_, rfl, df_need_list c l3⟩
  | 33, _, h => by cases h; exact ⟨_, rfl, df_sum_of c l3⟩
  | 34, _, h => by cases h; exact ⟨_, rfl, df_still_rows c l3⟩
  | 35, _, h => by cases h; exact ⟨_, rfl, df_stepper_of c l3⟩
  | 36, _, h => by cases h; exact ⟨_, rfl, df_as_table c l3⟩
  | 37, _, h => by cases h; exact ⟨_, rfl, df_is_grid c l3⟩
  | 38, _, h => by cases h; exact ⟨_, rfl, df_need_row c l3⟩
  | 39, _, h => by cases h; exact ⟨_, rfl, df_numbers_by c l3⟩
  | 40, _, h => by cases h; exact ⟨_, rfl, df_greatest_divisor c l3⟩
  | 41, _, h => by cases h; exact ⟨_, rfl, df_fractions_by c l3⟩
  | 42, _, h => by cases h; exact ⟨_, rfl, df_made_by c l3⟩
  | 43, _, h => by cases h; exact ⟨_, rfl, df_unit_row c l3⟩
  | 44, _, h => by cases h; exact ⟨_, rfl, df_need_by c l3⟩
  | 45, _, h => by cases h; exact ⟨_, rfl, df_need_question c l3⟩
  | 46, _, h => by cases h; exact ⟨_, rfl, df_made_or_not_by c l3⟩
  | 47, _, h => by cases h; exact ⟨_, rfl, df_made_by_or_not c l3⟩
  | 48, _, h => by cases h; exact ⟨_, rfl, df_are_leftovers c l3⟩
  | 49, _, h => by cases h; exact ⟨_, rfl, df_are_same_by c l3⟩
  | 50, _, h => by cases h; exact ⟨_, rfl, df_made_by_holds c l3⟩
  | 51, _, h => by cases h; exact ⟨_, rfl, df_does_divide c l3⟩
  | 52, _, h => by cases h; exact ⟨_, rfl, df_not_made_by_holds c l3⟩
  | 53, _, h => by cases h; exact ⟨_, rfl, df__law_pen c l3⟩
  | 54, _, h => by cases h; exact ⟨_, rfl, df__law_draw c l3⟩
  | 55, _, h => by cases h; exact ⟨_, rfl, df__law_pick c l3⟩
  | 56, _, h => by cases h; exact ⟨_, rfl, df__law_shuffled c l3⟩
  | 57, _, h => by cases h; exact ⟨_, rfl, df__law_is c l3⟩
  | 58, _, h => by cases h; exact ⟨_, rfl, df__law_whole c l3⟩
  | 59, _, h => by cases h; exact ⟨_, rfl, df__law_sum c l3⟩
  | 60, _, h => by cases h; exact ⟨_, rfl, df__law_drawn_row c l3⟩
  | 61, _, h => by cases h; exact ⟨_, rfl, df__law_drawn_rows c l3⟩
  | 62, _, h => by cases h; exact ⟨_, rfl, df__law_is_row c l3⟩
  | 63, _, h => by cases h; exact ⟨_, rfl, df__law_multiple c l3⟩
  | 64, _, h => by cases h; exact ⟨_, rfl, df__law_are_left c l3⟩
  | 65, _, h => by cases h; exact ⟨_, rfl, df_law c l3⟩
  | _ + 66, _, h => by cases h
/-! ### the head -/
abbrev lse : List Str := ([("_wall" : Str), ("SumError" : Str), ("BadNumber" : Str), ("BadRow" : Str), ("is_whole" : Str), ("is_number" : Str), ("as_tuples" : Str), ("is_index" : Str), ("MOST_WIDTH" : Str), ("is_row" : Str), ("is_row_of" : Str), ("MOST_LIST" : Str), ("are_rows" : Str), ("List" : Str), ("need_list" : Str), ("sum_of" : Str), ("still_rows" : Str), ("Stepper" : Str), ("stepper_of" : Str), ("as_table" : Str), ("is_grid" : Str), ("Made" : Str), ("NotMade" : Str), ("need_row" : Str), ("numbers_by" : Str), ("greatest_divisor" : Str), ("fractions_by" : Str), ("made_by" : Str), ("MOST_BY" : Str), ("MadeBy" : Str), ("NotMadeBy" : Str), ("ByRows" : Str), ("unit_row" : Str), ("need_by" : Str), ("need_question" : Str), ("made_or_not_by" : Str), ("made_by_or_not" : Str), ("are_leftovers" : Str), ("are_same_by" : Str), ("made_by_holds" : Str)] : List Str) ++ ([("does_divide" : Str), ("not_made_by_holds" : Str), ("_law_pen" : Str), ("_law_draw" : Str), ("_law_pick" : Str), ("_law_shuffled" : Str), ("_law_is" : Str), ("_law_whole" : Str), ("_law_sum" : Str), ("_law_drawn_row" : Str), ("_law_drawn_rows" : Str), ("_law_is_row" : Str), ("_law_multiple" : Str), ("_law_are_left" : Str)] : List Str)
abbrev RowL : PySem.W.OpenRow := PySem.W.OpenLaw.row PySem.Challenge.rw_sumsmade_k76_by_a_number_bent
def exB (K : PySem.W.Frag) : Bool := wfB Γ fk cn K && tabU K tf
abbrev hk : PySem.W.Hook := He.hookX 6 [] fnl [] tf exB
def ob (s : PySem.W.SharedT) : He.AlX := He.obsX 6 [] fnl [] tf exB (HandSHeadRun.getT s)
theorem ob_eq (s : PySem.W.SharedT) : ob s = hk.obs s.abs := He.obsX_eq (HandSHeadRun.getT_eq s)
theorem run (w : World) : HandSHeadRun.RunEq RowL (PySem.W.view RowL.prog [63]) hk ob 20000 lse w := by
  intro os
  kernel_rfl

open PySem PySem.W PySem.Calls PyProof.Rows in
theorem holds (hL : ∀ ns : List Int, ns.length ≤ 63 → (∀ z ∈ ns, Builtin.Int.intBits z ≤ 1048576) → ∃ S', (callsAt Γ bs 40).fn 65 [.flst (ns.map .int)] [] = some (.ok (.bl true) S')) : PySem.Challenge.rw_sumsmade_k76_by_a_number_bent.Holds := by
  w_on; o_law
  refine HandSHeadRun.head_any (r := OpenLaw.row PySem.Challenge.rw_sumsmade_k76_by_a_number_bent) (q := view (OpenLaw.row PySem.Challenge.rw_sumsmade_k76_by_a_number_bent).prog [63]) (H := hk) (ob := ob) (M := 20000) (loose := lse) (d := HandSHeadRun.topDef (OpenLaw.row PySem.Challenge.rw_sumsmade_k76_by_a_number_bent).prog 63) (kwd := []) ob_eq
    (by kernel_rfl) (fun s => by kernel_rfl) run (by kernel_rfl) (by kernel_rfl) (by kernel_rfl) (by rfl) (by first | assumption | decide +kernel) (by decide +kernel) ⟨rfl, rfl, rfl, rfl, rfl, by decide +kernel⟩ ?hw ?hc
  case hw => w_witness2
  case hc =>
    refine walk_ofM (l := PySem.Challenge.rw_sumsmade_k76_by_a_number_bent) (n := 63) (k := 39) (x := "script") (Γ := Γ) (bs := bs) (iL := 65) rfl (by decide) (by kernel_rfl) ⟨rfl, by decide, by decide⟩ rfl rfl ?F hL
    intro w mg fa h Y G hmg0
    obtain ⟨K, KX, c⟩ := Y
    have hmg : mg ("law" : PySem.Str) = some (.ref fa) := by
      have e : (HandSHeadRun.topDef (OpenLaw.row PySem.Challenge.rw_sumsmade_k76_by_a_number_bent).prog 63).name = ("law" : PySem.Str) := by kernel_rfl
      rw [← e]
      exact hmg0
    obtain ⟨m1, m2⟩ := He.ba c.more
    refine ⟨gwOf Γ fk cn tf K, KX, ?_, (tabs_of KX c).1, (tabs_of KX c).2, fun base hb hm => wf_of hb hm m1, defs_ok c.t.d m2⟩
    have h1 := (wf_of (tf := tf) KX G m1).fn "law" 65 (by rfl)
    rw [hmg] at h1
    cases h1.1
    rfl

section
variable {k : Nat} {S : Store} {ρ : En} {Q : D → Store → Prop}
noncomputable abbrev CC (k : Nat) : Calls := callsAt Γ bs k
theorem get_ap {r : Nat} {c : Cell} {X : Store} (h : S[r]? = some c) : (S ++ X)[r]? = some c := by
  rw [List.getElem?_append_left (List.getElem?_eq_some_iff.mp h).1]; exact h
theorem get_set {r a : Nat} {c y : Cell} (h : S[r]? = some c) (n : r ≠ a) : (S.set a y)[r]? = some c := by
  rw [List.getElem?_set_ne (Ne.symm n)]; exact h
theorem get_lt {r : Nat} {c : Cell} (h : S[r]? = some c) : r < S.length := (List.getElem?_eq_some_iff.mp h).1
theorem get_last {S : Store} {c : Cell} : (S ++ [c])[S.length]? = some c := by simp
theorem set_last {S : Store} {c c' : Cell} : (S ++ [c]).set S.length c' = S ++ [c'] := by simp
theorem set_self {r : Nat} {c y : Cell} (h : S[r]? = some c) : (S.set r y)[r]? = some y := by
  rw [List.getElem?_set_self (get_lt h)]
/-- integers in a list of the store or in a tuple -/
def ISeq (S : Store) (d : D) (xs : List Int) : Prop := (∃ r, d = .ref r ∧ S[r]? = some (.lst (xs.map .int))) ∨ d = .tup (xs.map .int)
theorem ISeq.ap {d : D} {xs : List Int} (h : ISeq S d xs) (X : Store) : ISeq (S ++ X) d xs := by
  rcases h with ⟨r, e, h⟩ | h
  · exact .inl ⟨r, e, get_ap h⟩
  · exact .inr h
theorem ISeq.seq {d : D} {xs : List Int} (h : ISeq S d xs) : ∃ src, seqM d S = some (.ok (xs.map .int, src) S) ∧ ∀ X, src.ok (S ++ X) := by
  rcases h with ⟨r, rfl, h⟩ | rfl
  · exact ⟨.lst r (xs.map .int), fn_eq ((PM_seqL h).mpr ⟨rfl, rfl⟩), fun X => get_ap h⟩
  · exact ⟨.non, rfl, fun _ => trivial⟩
theorem zipI (F : Int → Int → Int) : ∀ (xs ys : List Int), (zipL (xs.map .int) (ys.map .int)).filterMap (fun d => match d with
    | .tup [.int x, .int y] => some (D.int (F x y))
    | _ => none) = (List.zipWith F xs ys).map .int
  | [], _ => by simp [zipL]
  | _ :: _, [] => by simp [zipL]
  | x :: xs, y :: ys => by
    have := zipI F xs ys
    simp only [zipL, List.map_cons, List.zip_cons_cons, List.filterMap_cons, List.zipWith_cons_cons] at this ⊢
    rw [this]
theorem tt_iff {ρ : En} {S' : Store} {U : Bool → Store → Prop} : PM (tTrue ρ) S' U ↔ U true S' := PM_ret
/-- [el for p, q in zip(a, b)] over integers -/
theorem PM_zipc {own : List Nat} {p q : Nat} {ea eb el : Ev} {da db : D} {xs ys : List Int} (F : Int → Int → Int) (ha : PM (ea ρ) S fun d S' => d = da ∧ S' = S) (hb : PM (eb ρ) S fun d S' => d = db ∧ S' = S) (hx : ISeq S da xs) (hy : ISeq S db ys)
    (hl : xs.length < sizeLine) (he : ∀ x ∈ xs, ∀ y ∈ ys, ∀ acc, PM (el (((own.foldr (fun i ρ => ρ.set i none) ρ).set p (some (.int x))).set q (some (.int y)))) (S ++ [.lst acc]) fun d S' => d = .int (F x y) ∧ S' = S ++ [.lst acc])
    (hQ : Q (.ref S.length) (S ++ [.lst ((List.zipWith F xs ys).map .int)])) : PM (eComp own (iZip ea eb) (.many [p, q]) tTrue el ρ) S Q := by
  refine PM_comp ?_
  rw [PM_zip]
  refine ha.imp ?_
  rintro _ _ ⟨rfl, rfl⟩
  refine hb.imp ?_
  rintro _ _ ⟨rfl, rfl⟩
  obtain ⟨s1, e1, ok1⟩ := hx.seq
  obtain ⟨s2, e2, ok2⟩ := hy.seq
  rw [PM_of e1, PM_of e2]
  refine ⟨?_, fun d => match d with
    | .tup [.int x, .int y] => some (D.int (F x y))
    | _ => none, fun acc => ⟨ok1 _, ok2 _⟩, fun d hd => ?_, ?_⟩
  · show (zipL _ _).length < _
    rw [zipL_length, List.length_map, List.length_map]; omega
  · obtain ⟨n, hn⟩ := List.getElem?_of_mem hd
    obtain ⟨x, y, h1, h2, rfl⟩ := zip_at hn
    rw [List.getElem?_map] at h1 h2
    obtain ⟨x, g1, rfl⟩ := Option.map_eq_some_iff.mp h1
    obtain ⟨y, g2, rfl⟩ := Option.map_eq_some_iff.mp h2
    refine ⟨_, rfl, fun acc => tt_iff.mpr ⟨rfl, ?_⟩⟩
    simp only [if_true]
    refine (he x (List.mem_of_getElem? g1) y (List.mem_of_getElem? g2) acc).imp ?_
    rintro d S' ⟨rfl, rfl⟩
    exact ⟨rfl, rfl⟩
  · simp only
    rw [zipI]
    exact hQ
theorem mapI (F : Int → D) : ∀ (xs : List Int), (xs.map D.int).filterMap (fun d => match d with
    | .int x => some (F x)
    | _ => none) = xs.map F
  | [] => rfl
  | x :: xs => by
    rw [List.map_cons, List.filterMap_cons, mapI F xs]
    rfl
/-- [el for p in a] over integers -/
theorem PM_mapc {own : List Nat} {p : Nat} {ea el : Ev} {da : D} {xs : List Int} (F : Int → D) (ha : PM (ea ρ) S fun d S' => d = da ∧ S' = S) (hx : ISeq S da xs)
    (hl : xs.length < sizeLine) (he : ∀ x ∈ xs, ∀ acc, PM (el ((own.foldr (fun i ρ => ρ.set i none) ρ).set p (some (.int x)))) (S ++ [.lst acc]) fun d S' => d = F x ∧ S' = S ++ [.lst acc])
    (hQ : Q (.ref S.length) (S ++ [.lst (xs.map F)])) : PM (eComp own (iSeq ea) (.one p) tTrue el ρ) S Q := by
  refine PM_comp ?_
  rw [PM_iSeq]
  refine ha.imp ?_
  rintro _ _ ⟨rfl, rfl⟩
  obtain ⟨s1, e1, ok1⟩ := hx.seq
  rw [PM_of e1]
  refine ⟨by simpa using hl, fun d => match d with
    | .int x => some (F x)
    | _ => none, fun acc => ok1 _, fun d hd => ?_, ?_⟩
  · obtain ⟨x, h1, rfl⟩ := List.mem_map.mp hd
    refine ⟨_, rfl, fun acc => tt_iff.mpr ⟨rfl, ?_⟩⟩
    simp only [if_true]
    refine (he x h1 acc).imp ?_
    rintro d S' ⟨rfl, rfl⟩
    exact ⟨rfl, rfl⟩
  · simp only
    rw [mapI]
    exact hQ
theorem rng_at {i j : Int} {n : Nat} {d : D} (h : (rngL i j)[n]? = some d) : d = .int (i + n) ∧ i + n < j := by
  unfold rngL at h
  rw [List.getElem?_map] at h
  cases e : (List.range (j - i).toNat)[n]? with
  | none => rw [e] at h; cases h
  | some x =>
    rw [e] at h
    have := List.getElem?_eq_some_iff.mp e
    obtain ⟨h1, h2⟩ := this
    simp at h1 h2
    subst h2
    cases h
    exact ⟨rfl, by omega⟩
theorem atI_nat {xs : List D} {n : Nat} {d : D} (h : xs[n]? = some d) : atI xs (n : Int) = some d := by
  have hl := (List.getElem?_eq_some_iff.mp h).1
  unfold atI ixN
  rw [if_pos (by omega), if_pos (by omega)]
  simpa using h
theorem ixN_nat {n l : Nat} (h : n < l) : ixN l (n : Int) = some n := by
  unfold ixN
  rw [if_pos (by omega), if_pos (by omega)]
  simp
theorem rngOk_nat {n : Nat} (h : n < 2 ^ 60) : rngOk (n : Int) := ⟨by omega, by omega⟩
end


section
variable {k : Nat} {S : Store} {ρ : En} {Q : D → Store → Prop}
/-- rows of integers, each a list of its own -/
def Tab (S : Store) (ds : List D) (R : List (List Int)) : Prop := ds.length = R.length ∧ ∀ (i : Nat) d, ds[i]? = some d → ∃ r xs, d = .ref r ∧ R[i]? = some xs ∧ S[r]? = some (.lst (xs.map .int))
theorem Tab.at {ds : List D} {R : List (List Int)} (h : Tab S ds R) {i : Nat} {xs : List Int} (e : R[i]? = some xs) : ∃ r, ds[i]? = some (.ref r) ∧ S[r]? = some (.lst (xs.map .int)) := by
  have hl : i < ds.length := by rw [h.1]; exact (List.getElem?_eq_some_iff.mp e).1
  obtain ⟨r, ys, h1, h2, h3⟩ := h.2 i _ (List.getElem?_eq_getElem hl)
  rw [e] at h2
  cases h2
  exact ⟨r, by rw [List.getElem?_eq_getElem hl, h1], h3⟩
theorem Tab.keep {S' : Store} {ds : List D} {R : List (List Int)} (h : Tab S ds R) (kp : ∀ r c, .ref r ∈ ds → S[r]? = some c → S'[r]? = some c) : Tab S' ds R :=
  ⟨h.1, fun i d e => by
    obtain ⟨r, xs, h1, h2, h3⟩ := h.2 i d e
    exact ⟨r, xs, h1, h2, kp r _ (h1 ▸ List.mem_of_getElem? e) h3⟩⟩
theorem Tab.ne {ds : List D} {R : List (List Int)} (h : Tab S ds R) {r q : Nat} {es : List D} {p : Nat} (hr : .ref r ∈ ds) (hq : S[q]? = some (.lst es)) (hp : .ref p ∈ es) : r ≠ q := fun z => by
  subst z
  obtain ⟨i, hi, e⟩ := List.getElem_of_mem hr
  obtain ⟨r', xs, h1, _, h3⟩ := h.2 i _ (List.getElem?_eq_getElem hi)
  rw [e] at h1
  cases h1
  rw [hq] at h3
  cases h3
  obtain ⟨x, _, hx⟩ := List.mem_map.mp hp
  cases hx
theorem Tab.set {ds : List D} {R : List (List Int)} (h : Tab S ds R) {i r : Nat} {xs : List Int} (e : S[r]? = some (.lst (xs.map .int))) : Tab S (ds.set i (.ref r)) (R.set i xs) := by
  refine ⟨by simp [h.1], fun j d hj => ?_⟩
  by_cases hij : i = j
  · subst hij
    have hl : i < ds.length := by have := (List.getElem?_eq_some_iff.mp hj).1; simpa using this
    rw [List.getElem?_set_self hl] at hj
    cases hj
    exact ⟨r, xs, rfl, by rw [List.getElem?_set_self (by rw [← h.1]; exact hl)], e⟩
  · rw [List.getElem?_set_ne hij] at hj
    obtain ⟨r', ys, h1, h2, h3⟩ := h.2 j d hj
    exact ⟨r', ys, h1, by rw [List.getElem?_set_ne hij]; exact h2, h3⟩
abbrev stpF (a b c : Nat) : List (Str × D) := [("rows", .ref a), ("there", .ref b), ("leading", .ref c)]
/-- a Stepper in the store -/
structure Stp (n : Nat) (S : Store) (s a b c : Nat) (R T : List (List Int)) (L : List Nat) : Prop where
  ob : S[s]? = some (.obj 1 (stpF a b c))
  ra : ∃ ds, S[a]? = some (.lst ds) ∧ Tab S ds R ∧ ∀ r, .ref r ∈ ds → r ≠ c ∧ r < S.length
  rb : ∃ es, S[b]? = some (.lst es) ∧ Tab S es T ∧ ∀ r, .ref r ∈ es → r ≠ c ∧ r < S.length
  rc : S[c]? = some (.lst (L.map fun n => .int (n : Nat)))
  ab : a ≠ b
  ac : a ≠ c
  bc : b ≠ c
  lo : n ≤ s ∧ n ≤ a ∧ n ≤ b ∧ n ≤ c
  len : R.length = T.length
theorem Stp.sa {n s a b c : Nat} {R T : List (List Int)} {L : List Nat} (h : Stp n S s a b c R T L) : s ≠ a ∧ s ≠ b ∧ s ≠ c := by
  obtain ⟨ds, h1, _⟩ := h.ra
  obtain ⟨es, h2, _⟩ := h.rb
  have h3 := h.rc
  have h0 := h.ob
  refine ⟨fun z => ?_, fun z => ?_, fun z => ?_⟩
  · rw [z, h1] at h0; cases h0
  · rw [z, h2] at h0; cases h0
  · rw [z, h3] at h0; cases h0
theorem Stp.ap {n s a b c : Nat} {R T : List (List Int)} {L : List Nat} (h : Stp n S s a b c R T L) (X : Store) : Stp n (S ++ X) s a b c R T L := by
  obtain ⟨ds, h1, h2, h3⟩ := h.ra
  obtain ⟨es, g1, g2, g3⟩ := h.rb
  exact ⟨get_ap h.ob, ⟨ds, get_ap h1, h2.keep fun r c _ e => get_ap e, fun r hr => ⟨(h3 r hr).1, by rw [List.length_append]; have := (h3 r hr).2; omega⟩⟩,
    ⟨es, get_ap g1, g2.keep fun r c _ e => get_ap e, fun r hr => ⟨(g3 r hr).1, by rw [List.length_append]; have := (g3 r hr).2; omega⟩⟩, get_ap h.rc, h.ab, h.ac, h.bc, h.lo, h.len⟩
/-- a row is written -/
theorem Stp.putR {n s a b c : Nat} {R T : List (List Int)} {L : List Nat} (h : Stp n S s a b c R T L) {i r : Nat} {xs : List Int} {ds : List D} (hd : S[a]? = some (.lst ds)) (hr : S[r]? = some (.lst (xs.map .int))) (hc : r ≠ c) (hra : r ≠ a) (hi : i < R.length) :
    Stp n (S.set a (.lst (ds.set i (.ref r)))) s a b c (R.set i xs) T L := by
  obtain ⟨ds', h1, h2, h3⟩ := h.ra
  obtain ⟨es, g1, g2, g3⟩ := h.rb
  rw [hd] at h1
  cases h1
  obtain ⟨sa, sb, sc⟩ := h.sa
  have hl : i < ds.length := by rw [h2.1]; exact hi
  obtain ⟨p, _, hp1, _, _⟩ := h2.2 i _ (List.getElem?_eq_getElem hl)
  have hp : .ref p ∈ ds := hp1 ▸ List.getElem_mem hl
  have k1 : ∀ q, .ref q ∈ ds → q ≠ a := fun q hq => h2.ne hq hd hp
  have k2 : ∀ q, .ref q ∈ es → q ≠ a := fun q hq => g2.ne hq hd hp
  refine ⟨get_set h.ob sa, ⟨_, set_self hd, ?_, fun q hq => ?_⟩, ⟨es, get_set g1 (Ne.symm h.ab), g2.keep fun q c hq e => get_set e (k2 q hq), fun q hq => ⟨(g3 q hq).1, by rw [List.length_set]; exact (g3 q hq).2⟩⟩, get_set h.rc (Ne.symm h.ac), h.ab, h.ac, h.bc, h.lo, by rw [List.length_set]; exact h.len⟩
  · exact (h2.keep fun q c hq e => get_set e (k1 q hq)).set (get_set hr hra)
  · rw [List.length_set]
    rcases List.mem_or_eq_of_mem_set hq with z | z
    · exact h3 q z
    · cases z
      exact ⟨hc, get_lt hr⟩
theorem Stp.putT {n s a b c : Nat} {R T : List (List Int)} {L : List Nat} (h : Stp n S s a b c R T L) {i r : Nat} {xs : List Int} {es : List D} (hd : S[b]? = some (.lst es)) (hr : S[r]? = some (.lst (xs.map .int))) (hc : r ≠ c) (hrb : r ≠ b) (hi : i < R.length) :
    Stp n (S.set b (.lst (es.set i (.ref r)))) s a b c R (T.set i xs) L := by
  obtain ⟨ds, h1, h2, h3⟩ := h.ra
  obtain ⟨es', g1, g2, g3⟩ := h.rb
  rw [hd] at g1
  cases g1
  obtain ⟨sa, sb, sc⟩ := h.sa
  have hl : i < es.length := by rw [g2.1, ← h.len]; exact hi
  obtain ⟨p, _, hp1, _, _⟩ := g2.2 i _ (List.getElem?_eq_getElem hl)
  have hp : .ref p ∈ es := hp1 ▸ List.getElem_mem hl
  have k1 : ∀ q, .ref q ∈ ds → q ≠ b := fun q hq => h2.ne hq hd hp
  have k2 : ∀ q, .ref q ∈ es → q ≠ b := fun q hq => g2.ne hq hd hp
  refine ⟨get_set h.ob sb, ⟨ds, get_set h1 h.ab, h2.keep fun q c hq e => get_set e (k1 q hq), fun q hq => ⟨(h3 q hq).1, by rw [List.length_set]; exact (h3 q hq).2⟩⟩, ⟨_, set_self hd, ?_, fun q hq => ?_⟩, get_set h.rc (Ne.symm h.bc), h.ab, h.ac, h.bc, h.lo, by rw [List.length_set]; exact h.len⟩
  · exact (g2.keep fun q c hq e => get_set e (k2 q hq)).set (get_set hr hrb)
  · rw [List.length_set]
    rcases List.mem_or_eq_of_mem_set hq with z | z
    · exact g3 q z
    · cases z
      exact ⟨hc, get_lt hr⟩
theorem belowDs_mem {m : Nat} : ∀ {ds : List D} {q : Nat}, belowDs m ds → .ref q ∈ ds → q < m
  | [], _, _, h => by cases h
  | d :: ds, q, hb, h => by
    rcases List.mem_cons.mp h with e | h
    · subst e; exact hb.1
    · exact belowDs_mem hb.2 h
theorem Stp.sub {n m s a b c : Nat} {R T : List (List Int)} {L : List Nat} {S' : Store} (h : Stp n S s a b c R T L) (hs : s < m ∧ a < m ∧ b < m ∧ c < m) (hm : m ≤ S'.length) (ag : ∀ r, r < m → S'[r]? = S[r]?) (ba : ∀ x ds q, x = a ∨ x = b → S[x]? = some (.lst ds) → .ref q ∈ ds → q < m) : Stp n S' s a b c R T L := by
  have tk : ∀ {r : Nat} {x : Cell}, S[r]? = some x → r < m → S'[r]? = some x := fun {r x} e hr => by rw [ag r hr]; exact e
  obtain ⟨ds, h1, h2, h3⟩ := h.ra
  obtain ⟨es, g1, g2, g3⟩ := h.rb
  refine ⟨tk h.ob hs.1, ⟨ds, tk h1 hs.2.1, h2.keep fun q c hq e => tk e (ba a ds q (.inl rfl) h1 hq), fun q hq => ⟨(h3 q hq).1, by have := ba a ds q (.inl rfl) h1 hq; omega⟩⟩,
    ⟨es, tk g1 hs.2.2.1, g2.keep fun q c hq e => tk e (ba b es q (.inr rfl) g1 hq), fun q hq => ⟨(g3 q hq).1, by have := ba b es q (.inr rfl) g1 hq; omega⟩⟩, tk h.rc hs.2.2.2, h.ab, h.ac, h.bc, h.lo, h.len⟩
theorem Stp.lt {n s a b c : Nat} {R T : List (List Int)} {L : List Nat} (h : Stp n S s a b c R T L) : s < S.length ∧ a < S.length ∧ b < S.length ∧ c < S.length := by
  obtain ⟨ds, h1, _⟩ := h.ra
  obtain ⟨es, h2, _⟩ := h.rb
  exact ⟨get_lt h.ob, get_lt h1, get_lt h2, get_lt h.rc⟩
/-- all but the cells a and b stays -/
def Kp (a b : Nat) (S S' : Store) : Prop := S.length ≤ S'.length ∧ ∀ i, i < S.length → i ≠ a → i ≠ b → S'[i]? = S[i]?
theorem Kp.refl {a b : Nat} : Kp a b S S := ⟨Nat.le_refl _, fun _ _ _ _ => rfl⟩
theorem Kp.trans {a b : Nat} {S1 S2 : Store} (h : Kp a b S S1) (h2 : Kp a b S1 S2) : Kp a b S S2 := ⟨Nat.le_trans h.1 h2.1, fun i hi n1 n2 => (h2.2 i (Nat.lt_of_lt_of_le hi h.1) n1 n2).trans (h.2 i hi n1 n2)⟩
theorem Kp.ap {a b : Nat} {X : Store} : Kp a b S (S ++ X) := ⟨by simp, fun i hi _ _ => List.getElem?_append_left (by omega)⟩
theorem Kp.setA {a b : Nat} {y : Cell} : Kp a b S (S.set a y) := ⟨by simp, fun i hi h _ => by rw [List.getElem?_set_ne (Ne.symm h)]⟩
theorem Kp.setB {a b : Nat} {y : Cell} : Kp a b S (S.set b y) := ⟨by simp, fun i hi _ h => by rw [List.getElem?_set_ne (Ne.symm h)]⟩
theorem Kp.get {a b r : Nat} {S' : Store} {c : Cell} (h : Kp a b S S') (e : S[r]? = some c) (h1 : r ≠ a) (h2 : r ≠ b) : S'[r]? = some c := (h.2 r (get_lt e) h1 h2).trans e
/-- a call's end keeps it -/
theorem Stp.drop {n s a b c : Nat} {R T R0 T0 : List (List Int)} {L L0 : List Nat} {S' : Store} {d : D} (h : Stp n S' s a b c R T L) (h0 : Stp n S s a b c R0 T0 L0) : Stp n (dropR S d S') s a b c R T L := by
  unfold dropR
  split
  · exact h
  · rename_i hl
    have ag : ∀ r, r < S.length → (S'.take S.length)[r]? = S'[r]? := fun r hr => by rw [List.getElem?_take, if_pos hr]
    have lm : S.length ≤ (S'.take S.length).length := by rw [List.length_take]; omega
    split
    · rename_i hm
      refine h.sub h0.lt lm ag fun x ds q hx e hq => ?_
      have hlt : x < S.length := by
        rcases hx with rfl | rfl
        · exact h0.lt.2.1
        · exact h0.lt.2.2.1
      have e2 : (S'.take S.length)[x]? = some (.lst ds) := (ag x hlt).trans e
      rcases hm.1 with z | z
      · rw [z] at e2
        rcases hx with rfl | rfl
        · obtain ⟨ds0, h1, _, h3⟩ := h0.ra
          rw [h1] at e2; cases e2
          exact (h3 q hq).2
        · obtain ⟨ds0, h1, _, h3⟩ := h0.rb
          rw [h1] at e2; cases e2
          exact (h3 q hq).2
      · exact belowDs_mem (z _ (List.mem_of_getElem? e2)) hq
    · exact h
theorem Kp.drop {a b : Nat} {S' : Store} {d : D} (h : Kp a b S S') : Kp a b S (dropR S d S') := by
  unfold dropR
  split
  · exact h
  · split
    · refine ⟨by rw [List.length_take]; have := h.1; omega, fun i hi h1 h2 => ?_⟩
      rw [List.getElem?_take, if_pos (by omega)]
      exact h.2 i hi h1 h2
    · exact h
end


section
variable {k n s a b c : Nat} {S : Store} {ρ : En} {Q : D → Store → Prop} {R T : List (List Int)} {L : List Nat}
theorem stF : Γ.fields 1 = [("rows" : Str), ("there" : Str), ("leading" : Str)] := rfl
theorem rd_R (h : Stp n S s a b c R T L) {i : Nat} (hi : ρ[i]? = some (some (.ref s))) : PM (eUn (oFld Γ "rows") (eSlot i) ρ) S Q ↔ Q (.ref a) S := by
  rw [PM_eUn, PM_slot hi, PM_fldR h.ob (by rw [stF]; decide) (d := .ref a) rfl]
theorem rd_T (h : Stp n S s a b c R T L) {i : Nat} (hi : ρ[i]? = some (some (.ref s))) : PM (eUn (oFld Γ "there") (eSlot i) ρ) S Q ↔ Q (.ref b) S := by
  rw [PM_eUn, PM_slot hi, PM_fldR h.ob (by rw [stF]; decide) (d := .ref b) rfl]
theorem rd_L (h : Stp n S s a b c R T L) {i : Nat} (hi : ρ[i]? = some (some (.ref s))) : PM (eUn (oFld Γ "leading") (eSlot i) ρ) S Q ↔ Q (.ref c) S := by
  rw [PM_eUn, PM_slot hi, PM_fldR h.ob (by rw [stF]; decide) (d := .ref c) rfl]
theorem rd_row (h : Stp n S s a b c R T L) {i j at_ : Nat} {xs : List Int} (hi : ρ[i]? = some (some (.ref s))) (hj : ρ[j]? = some (some (.int (at_ : Nat)))) (hx : R[at_]? = some xs) :
    ∃ r, S[r]? = some (.lst (xs.map .int)) ∧ (r ≠ c ∧ r ≠ a) ∧ ∀ Q, PM (eOp oIx (eUn (oFld Γ "rows") (eSlot i)) (eSlot j) ρ) S Q ↔ Q (.ref r) S := by
  obtain ⟨ds, h1, h2, h3⟩ := h.ra
  obtain ⟨r, e1, e2⟩ := h2.at hx
  refine ⟨r, e2, ⟨(h3 r (List.mem_of_getElem? e1)).1, h2.ne (List.mem_of_getElem? e1) h1 (List.mem_of_getElem? e1)⟩, fun Q => ?_⟩
  rw [PM_eOp, rd_R h hi, PM_slot hj, PM_ixL h1]
  exact ⟨fun ⟨d, e, q⟩ => by rw [atI_nat e1] at e; cases e; exact q, fun q => ⟨_, atI_nat e1, q⟩⟩
theorem rd_trow (h : Stp n S s a b c R T L) {i j at_ : Nat} {xs : List Int} (hi : ρ[i]? = some (some (.ref s))) (hj : ρ[j]? = some (some (.int (at_ : Nat)))) (hx : T[at_]? = some xs) :
    ∃ r, S[r]? = some (.lst (xs.map .int)) ∧ (r ≠ c ∧ r ≠ b) ∧ ∀ Q, PM (eOp oIx (eUn (oFld Γ "there") (eSlot i)) (eSlot j) ρ) S Q ↔ Q (.ref r) S := by
  obtain ⟨ds, h1, h2, h3⟩ := h.rb
  obtain ⟨r, e1, e2⟩ := h2.at hx
  refine ⟨r, e2, ⟨(h3 r (List.mem_of_getElem? e1)).1, h2.ne (List.mem_of_getElem? e1) h1 (List.mem_of_getElem? e1)⟩, fun Q => ?_⟩
  rw [PM_eOp, rd_T h hi, PM_slot hj, PM_ixL h1]
  exact ⟨fun ⟨d, e, q⟩ => by rw [atI_nat e1] at e; cases e; exact q, fun q => ⟨_, atI_nat e1, q⟩⟩
theorem rd_ent (h : Stp n S s a b c R T L) {i j l at_ col : Nat} {xs : List Int} {z : Int} (hi : ρ[i]? = some (some (.ref s))) (hj : ρ[j]? = some (some (.int (at_ : Nat)))) (hl : ρ[l]? = some (some (.int (col : Nat)))) (hx : R[at_]? = some xs) (hz : xs[col]? = some z) :
    PM (eOp oIx (eOp oIx (eUn (oFld Γ "rows") (eSlot i)) (eSlot j)) (eSlot l) ρ) S Q ↔ Q (.int z) S := by
  obtain ⟨r, e1, _, e2⟩ := rd_row h hi hj hx
  have e3 : (xs.map D.int)[col]? = some (.int z) := by rw [List.getElem?_map, hz]; rfl
  rw [PM_eOp, e2, PM_slot hl, PM_ixL e1]
  exact ⟨fun ⟨d, e, q⟩ => by rw [atI_nat e3] at e; cases e; exact q, fun q => ⟨_, atI_nat e3, q⟩⟩
/-- one row less another, so often -/
def subR (q : Int) (xs ys : List Int) : List Int := List.zipWith (fun x y => x - q * y) xs ys
theorem pm_eq {e : Ev} {d : D} (h : ∀ Q, PM (e ρ) S Q ↔ Q d S) : PM (e ρ) S fun d' S' => d' = d ∧ S' = S := (h _).mpr ⟨rfl, rfl⟩
theorem m_take (h : Stp n S s a b c R T L) {i j : Nat} {q : Int} {xi xj yi yj : List Int} (hi : R[i]? = some xi) (hj : R[j]? = some xj) (ti : T[i]? = some yi) (tj : T[j]? = some yj) (hm : ∀ y ∈ xj, mulOk q y) (hm2 : ∀ y ∈ yj, mulOk q y)
    (hl : xi.length < sizeLine) (hl2 : yi.length < sizeLine) :
    PM ((CC (k + 1)).fn 6 [.ref s, .int (i : Nat), .int (j : Nat), .int q]) S fun d S' => d = .non ∧ Kp a b S S' ∧ Stp n S' s a b c (R.set i (subR q xi xj)) (T.set i (subR q yi yj)) L := by
  refine PM_fn rfl rfl rfl ?_
  unfold b_Stepper_take
  have hil : i < R.length := (List.getElem?_eq_some_iff.mp hi).1
  rw [PZ_seq, PZ_asg]
  obtain ⟨r1, g1, _, p1⟩ := rd_row (ρ := [some (.ref s), some (.int (i : Nat)), some (.int (j : Nat)), some (.int q), none, none]) h (i := 0) (j := 1) rfl rfl hi
  obtain ⟨r2, g2, _, p2⟩ := rd_row (ρ := [some (.ref s), some (.int (i : Nat)), some (.int (j : Nat)), some (.int q), none, none]) h (i := 0) (j := 2) rfl rfl hj
  refine PM_zipc (fun x y => x - q * y) (pm_eq p1) (pm_eq p2) (.inl ⟨r1, rfl, g1⟩) (.inl ⟨r2, rfl, g2⟩) hl (fun x hx y hy acc => ?_) ?_
  · simp only [PM_ret, PM_bind, PM_guard, PM_slot', PM_eC, PM_eOp, PM_eUn, PM_eT, PM_tV, PM_eAnd, PM_eOr, PM_tAnd, PM_tOr, PM_tNot, PM_eIf, PM_tIf, PM_tCmp, PM_tChn, PM_last, PM_more, PM_aNil, PM_aCons, PM_eTup, PM_eLst, PM_eCall, PM_eNew, PM_eDrop, PM_add, PM_sub, PM_mul, PM_fdiv, PM_mod, PM_pow, PM_neg, PM_lt, PM_le, PM_gt, PM_ge, PM_eqi, PM_nei, own_int, own_bl, own_tup, own_str, PM_isNon, PM_isBl, PM_isnot, PM_tbl, PM_tint, PM_tnon, PM_ttup, PM_lenT, PM_lenF, PM_int, PM_abs, PM_tupT, PM_lstF, PM_ixT, PM_eM, PM_iSeq, PM_seqT, PM_seqF, PM_rng1, PM_rng2, PM_enum, PZ_bind, PZ_nx, PZ_bk, PZ_ct, PZ_rt, SQ_nx, SQ_rt, SQ_ct, SQ_bk, TQ_nx, TQ_ct, TQ_bk, TQ_rt, PZ_seq, PZ_ret, PZ_drop, PZ_if, PZ_asg, PZ_one, PZ_par, PZ_allN, PZ_allC, PZ_tup, PZ_sub, PZ_fld, PZ_for, List.getElem?_cons_zero, List.getElem?_cons_succ, Option.some.injEq, exists_eq_left', exists_eq_left, List.set_cons_zero, List.set_cons_succ, setAll, List.length_cons, List.length_nil, List.map_cons, List.map_nil, Nat.reduceAdd, Nat.reduceSub, List.replicate, List.cons_append, List.nil_append, true_and, and_true, Bool.not_true, Bool.not_false, if_true, if_false, Bool.false_eq_true, D.int.injEq, D.isNon, D.isBl, Nat.reduceLeDiff, dropR_len, Nat.le_refl, ite_true, ite_false, reduceCtorEq, List.foldr_cons, List.foldr_nil]
    exact hm y hy
  have h1 := h.ap [.lst ((subR q xi xj).map .int)]
  obtain ⟨ds, d1, d2, d3⟩ := h1.ra
  have h2 := h1.putR (i := i) (r := S.length) (xs := subR q xi xj) d1 get_last (by have := h.lt; omega) (by have := h.lt; omega) hil
  have dl : i < ds.length := by rw [d2.1]; exact hil
  change PZ _ _ (S ++ [.lst ((subR q xi xj).map .int)]) _
  rw [PZ_sub, rd_R h1 rfl, PM_slot (i := 1) (d := .int (i : Nat)) rfl, PM_putL d1 (ixN_nat dl), SQ_nx, PZ_asg]
  have f1 : Kp a b S ((S ++ [Cell.lst ((subR q xi xj).map .int)]).set a (.lst (ds.set i (.ref S.length)))) := Kp.ap.trans Kp.setA
  generalize hS1 : (S ++ [Cell.lst ((subR q xi xj).map .int)]).set a (.lst (ds.set i (.ref S.length))) = S1 at h2 f1 ⊢
  obtain ⟨r3, g3, _, p3⟩ := rd_trow (ρ := [some (.ref s), some (.int (i : Nat)), some (.int (j : Nat)), some (.int q), none, none]) h2 (i := 0) (j := 1) rfl rfl ti
  obtain ⟨r4, g4, _, p4⟩ := rd_trow (ρ := [some (.ref s), some (.int (i : Nat)), some (.int (j : Nat)), some (.int q), none, none]) h2 (i := 0) (j := 2) rfl rfl tj
  refine PM_zipc (fun x y => x - q * y) (pm_eq p3) (pm_eq p4) (.inl ⟨r3, rfl, g3⟩) (.inl ⟨r4, rfl, g4⟩) hl2 (fun x hx y hy acc => ?_) ?_
  · simp only [PM_ret, PM_bind, PM_guard, PM_slot', PM_eC, PM_eOp, PM_eUn, PM_eT, PM_tV, PM_eAnd, PM_eOr, PM_tAnd, PM_tOr, PM_tNot, PM_eIf, PM_tIf, PM_tCmp, PM_tChn, PM_last, PM_more, PM_aNil, PM_aCons, PM_eTup, PM_eLst, PM_eCall, PM_eNew, PM_eDrop, PM_add, PM_sub, PM_mul, PM_fdiv, PM_mod, PM_pow, PM_neg, PM_lt, PM_le, PM_gt, PM_ge, PM_eqi, PM_nei, own_int, own_bl, own_tup, own_str, PM_isNon, PM_isBl, PM_isnot, PM_tbl, PM_tint, PM_tnon, PM_ttup, PM_lenT, PM_lenF, PM_int, PM_abs, PM_tupT, PM_lstF, PM_ixT, PM_eM, PM_iSeq, PM_seqT, PM_seqF, PM_rng1, PM_rng2, PM_enum, PZ_bind, PZ_nx, PZ_bk, PZ_ct, PZ_rt, SQ_nx, SQ_rt, SQ_ct, SQ_bk, TQ_nx, TQ_ct, TQ_bk, TQ_rt, PZ_seq, PZ_ret, PZ_drop, PZ_if, PZ_asg, PZ_one, PZ_par, PZ_allN, PZ_allC, PZ_tup, PZ_sub, PZ_fld, PZ_for, List.getElem?_cons_zero, List.getElem?_cons_succ, Option.some.injEq, exists_eq_left', exists_eq_left, List.set_cons_zero, List.set_cons_succ, setAll, List.length_cons, List.length_nil, List.map_cons, List.map_nil, Nat.reduceAdd, Nat.reduceSub, List.replicate, List.cons_append, List.nil_append, true_and, and_true, Bool.not_true, Bool.not_false, if_true, if_false, Bool.false_eq_true, D.int.injEq, D.isNon, D.isBl, Nat.reduceLeDiff, dropR_len, Nat.le_refl, ite_true, ite_false, reduceCtorEq, List.foldr_cons, List.foldr_nil]
    exact hm2 y hy
  have h3 := h2.ap [.lst ((subR q yi yj).map .int)]
  obtain ⟨es, e1, e2, e3⟩ := h3.rb
  have h4 := h3.putT (i := i) (r := S1.length) (xs := subR q yi yj) e1 get_last (by have := h2.lt; omega) (by have := h2.lt; omega) (by rw [List.length_set]; exact hil)
  have el : i < es.length := by rw [e2.1, ← h.len]; exact hil
  change PZ _ _ (S1 ++ [.lst ((subR q yi yj).map .int)]) _
  rw [PZ_sub, rd_T h3 rfl, PM_slot (i := 1) (d := .int (i : Nat)) rfl, PM_putL e1 (ixN_nat el)]
  have f2 := f1.trans ((Kp.ap (X := [Cell.lst ((subR q yi yj).map .int)])).trans (Kp.setB (y := Cell.lst (es.set i (.ref S1.length)))))
  exact ⟨rfl, f2.drop, h4.drop h⟩
end


section
variable {k n s a b c : Nat} {S : Store} {ρ : En} {Q : D → Store → Prop} {R T : List (List Int)} {L : List Nat}
def ent (R : List (List Int)) (i j : Nat) : Int := (R.getD i []).getD j 0
/-- the rows from a step on with a number that is not 0 in a column -/
def plc (R : List (List Int)) (col step : Nat) : List Nat := ((List.range (R.length - step)).map (step + ·)).filter fun i => decide (ent R i col ≠ 0)
theorem ent_at {i j : Nat} {w : Nat} (hw : ∀ xs ∈ R, xs.length = w) (hi : i < R.length) (hj : j < w) : ∃ xs, R[i]? = some xs ∧ xs[j]? = some (ent R i j) := by
  refine ⟨R[i], List.getElem?_eq_getElem hi, ?_⟩
  have hl : j < (R[i]).length := by rw [hw _ (List.getElem_mem hi)]; exact hj
  have e : R.getD i [] = R[i] := by rw [List.getD_eq_getElem?_getD, List.getElem?_eq_getElem hi]; rfl
  unfold ent
  rw [e, List.getD_eq_getElem?_getD, List.getElem?_eq_getElem hl]
  rfl
theorem plc_mem {col step i : Nat} : i ∈ plc R col step ↔ step ≤ i ∧ i < R.length ∧ ent R i col ≠ 0 := by
  unfold plc
  rw [List.mem_filter, List.mem_map]
  constructor
  · rintro ⟨⟨m, hm, rfl⟩, h⟩
    have := List.mem_range.mp hm
    exact ⟨by omega, by omega, of_decide_eq_true h⟩
  · rintro ⟨h1, h2, h3⟩
    exact ⟨⟨i - step, List.mem_range.mpr (by omega), by omega⟩, decide_eq_true h3⟩
def natD (n : Nat) : D := .int (n : Nat)
theorem m_places (h : Stp n S s a b c R T L) {col step w : Nat} (hw : ∀ xs ∈ R, xs.length = w) (hc : col < w) (hR : R.length < 1000) (hs : step ≤ R.length) :
    PM ((CC (k + 1)).fn 5 [.ref s, .int (col : Nat), .int (step : Nat)]) S fun d S' => d = .ref S.length ∧ S' = S ++ [.lst ((plc R col step).map natD)] := by
  refine PM_fn rfl rfl rfl ?_
  unfold b_Stepper_places
  obtain ⟨ds, h1, h2, _⟩ := h.ra
  rw [PZ_ret]
  refine PM_comp ?_
  rw [PM_rng2, PM_slot (i := 2) (d := .int (step : Nat)) rfl, PM_eUn, rd_R h rfl, PM_lenL h1]
  refine ⟨step, ds.length, rfl, rfl, ⟨rngOk_nat (by omega), rngOk_nat (by have := h2.1; omega)⟩, ?_⟩
  have hlen : ((ds.length : Int) - (step : Int)).toNat = R.length - step := by rw [h2.1]; omega
  refine ⟨?_, fun d => match d with
    | .int z => if ent R z.toNat col ≠ 0 then some d else none
    | _ => none, fun _ => trivial, fun d hd => ?_, ?_⟩
  · show (rngL _ _).length < _
    rw [rngL_length, hlen]; have := sizeLine_big; omega
  · obtain ⟨j, hj⟩ := List.getElem?_of_mem hd
    obtain ⟨rfl, hlt⟩ := rng_at hj
    have hi : step + j < R.length := by rw [h2.1] at hlt; omega
    obtain ⟨xs, e1, e2⟩ := ent_at hw hi hc
    have ez : ((step : Int) + (j : Int)) = ((step + j : Nat) : Int) := by omega
    have et : ((step : Int) + (j : Int)).toNat = step + j := by omega
    refine ⟨_, rfl, fun acc => ?_⟩
    rw [PM_tCmp, ez, rd_ent (h.ap _) rfl rfl rfl e1 e2, PM_eC, own_int, PM_nei]
    refine ⟨rfl, ?_⟩
    rw [← ez]
    dsimp only
    rw [et]
    by_cases hz : ent R (step + j) col = 0
    · rw [hz]
      simp
    · have : (!decide (ent R (step + j) col = 0)) = true := by simp [hz]
      rw [this, if_pos rfl, PM_slot (d := .int ((step : Int) + (j : Int))) rfl]
      exact ⟨rfl, by rw [if_pos hz]⟩
  · have e : (rngL (step : Int) (ds.length : Int)).filterMap (fun d => match d with
        | .int z => if ent R z.toNat col ≠ 0 then some d else none
        | _ => none) = (plc R col step).map natD := by
      unfold rngL plc
      rw [hlen, List.filterMap_map]
      generalize R.length - step = m
      induction List.range m with
      | nil => rfl
      | cons x xs ih =>
        rw [List.filterMap_cons, List.map_cons, List.filter_cons, ih]
        have et : ((step : Int) + (x : Int)).toNat = step + x := by omega
        simp only [Function.comp, et]
        by_cases hz : ent R (step + x) col = 0
        · simp [hz]
        · simp only [ne_eq, hz, not_false_eq_true, if_true, decide_true, List.map_cons]
          congr 1
    rw [e]
    have nd : dropR S (.ref S.length) (S ++ [.lst ((plc R col step).map natD)]) = S ++ [.lst ((plc R col step).map natD)] := by
      unfold dropR
      rw [if_neg (by simp), if_neg]
      rintro ⟨_, hb⟩
      exact absurd (show S.length < S.length from hb) (Nat.lt_irrefl _)
    exact ⟨rfl, nd⟩
theorem m_exch (h : Stp n S s a b c R T L) {i j : Nat} {xi xj yi yj : List Int} (hi : R[i]? = some xi) (hj : R[j]? = some xj) (ti : T[i]? = some yi) (tj : T[j]? = some yj) :
    PM ((CC (k + 1)).fn 7 [.ref s, .int (i : Nat), .int (j : Nat)]) S fun d S' => d = .non ∧ Kp a b S S' ∧ Stp n S' s a b c ((R.set i xj).set j xi) ((T.set i yj).set j yi) L := by
  refine PM_fn rfl rfl rfl ?_
  unfold b_Stepper_exchange
  change PZ _ [some (.ref s), some (.int (i : Nat)), some (.int (j : Nat))] S _
  have hil : i < R.length := (List.getElem?_eq_some_iff.mp hi).1
  have hjl : j < R.length := (List.getElem?_eq_some_iff.mp hj).1
  have two : ∀ x y : D, ([x, y] : List D).length ≤ sizeLine := fun x y => by have := sizeLine_big; simp; omega
  rw [PZ_seq, PZ_asg]
  obtain ⟨r1, g1, n1, p1⟩ := rd_row (ρ := [some (.ref s), some (.int (i : Nat)), some (.int (j : Nat))]) h (i := 0) (j := 1) rfl rfl hi
  obtain ⟨r2, g2, n2, p2⟩ := rd_row (ρ := [some (.ref s), some (.int (i : Nat)), some (.int (j : Nat))]) h (i := 0) (j := 2) rfl rfl hj
  obtain ⟨ds, d1, d2, d3⟩ := h.ra
  have dli : i < ds.length := by rw [d2.1]; exact hil
  have dlj : j < ds.length := by rw [d2.1]; exact hjl
  rw [PM_eTup, PM_aCons, p2, PM_aCons, p1, PM_aNil]
  refine ⟨two _ _, ?_⟩
  rw [PZ_tup rfl, PZ_allC, PZ_sub, rd_R h rfl, PM_slot (i := 1) (d := .int (i : Nat)) rfl, PM_putL d1 (ixN_nat dli), SQ_nx]
  have h1 := h.putR (i := i) (r := r2) (xs := xj) d1 g2 n2.1 n2.2 hil
  have d1' : (S.set a (.lst (ds.set i (.ref r2))))[a]? = some (.lst (ds.set i (.ref r2))) := set_self d1
  have g1' : (S.set a (.lst (ds.set i (.ref r2))))[r1]? = some (.lst (xi.map .int)) := get_set g1 n1.2
  have h2 := h1.putR (i := j) (r := r1) (xs := xi) d1' g1' n1.1 n1.2 (by rw [List.length_set]; exact hjl)
  rw [PZ_allC, PZ_sub, rd_R h1 rfl, PM_slot (i := 2) (d := .int (j : Nat)) rfl, PM_putL d1' (ixN_nat (by rw [List.length_set]; exact dlj)), SQ_nx, PZ_allN, SQ_nx]
  have f1 : Kp a b S ((S.set a (Cell.lst (ds.set i (.ref r2)))).set a (Cell.lst ((ds.set i (.ref r2)).set j (.ref r1)))) := Kp.setA.trans Kp.setA
  generalize hS1 : (S.set a (Cell.lst (ds.set i (.ref r2)))).set a (Cell.lst ((ds.set i (.ref r2)).set j (.ref r1))) = S1 at h2 f1 ⊢
  obtain ⟨r3, g3, n3, p3⟩ := rd_trow (ρ := [some (.ref s), some (.int (i : Nat)), some (.int (j : Nat))]) h2 (i := 0) (j := 1) rfl rfl ti
  obtain ⟨r4, g4, n4, p4⟩ := rd_trow (ρ := [some (.ref s), some (.int (i : Nat)), some (.int (j : Nat))]) h2 (i := 0) (j := 2) rfl rfl tj
  obtain ⟨es, e1, e2, e3⟩ := h2.rb
  have eli : i < es.length := by rw [e2.1, ← h.len]; exact hil
  have elj : j < es.length := by rw [e2.1, ← h.len]; exact hjl
  rw [PZ_asg, PM_eTup, PM_aCons, p4, PM_aCons, p3, PM_aNil]
  refine ⟨two _ _, ?_⟩
  rw [PZ_tup rfl, PZ_allC, PZ_sub, rd_T h2 rfl, PM_slot (i := 1) (d := .int (i : Nat)) rfl, PM_putL e1 (ixN_nat eli), SQ_nx]
  have hR2 : ((R.set i xj).set j xi).length = R.length := by simp
  have h3 := h2.putT (i := i) (r := r4) (xs := yj) e1 g4 n4.1 n4.2 (by rw [hR2]; exact hil)
  have e1' : (S1.set b (.lst (es.set i (.ref r4))))[b]? = some (.lst (es.set i (.ref r4))) := set_self e1
  have g3' : (S1.set b (.lst (es.set i (.ref r4))))[r3]? = some (.lst (yi.map .int)) := get_set g3 n3.2
  have h4 := h3.putT (i := j) (r := r3) (xs := yi) e1' g3' n3.1 n3.2 (by rw [hR2]; exact hjl)
  rw [PZ_allC, PZ_sub, rd_T h3 rfl, PM_slot (i := 2) (d := .int (j : Nat)) rfl, PM_putL e1' (ixN_nat (by rw [List.length_set]; exact elj)), SQ_nx, PZ_allN]
  have f2 := f1.trans ((Kp.setB (y := Cell.lst (es.set i (.ref r4)))).trans (Kp.setB (y := Cell.lst ((es.set i (.ref r4)).set j (.ref r3)))))
  exact ⟨rfl, f2.drop, h4.drop h⟩
end


/-! ### whole rows, worked through: what grows -/
section
variable {R T : List (List Int)}
theorem ent_set {i i' j : Nat} {xs : List Int} (hi : i < R.length) : ent (R.set i xs) i' j = if i' = i then xs.getD j 0 else ent R i' j := by
  unfold ent
  by_cases h : i' = i
  · subst h
    rw [if_pos rfl, List.getD_eq_getElem?_getD (l := R.set i' xs), List.getElem?_set_self hi]; rfl
  · rw [if_neg h, List.getD_eq_getElem?_getD (l := R.set i xs), List.getElem?_set_ne (Ne.symm h), ← List.getD_eq_getElem?_getD]
theorem getD_sub {q : Int} : ∀ {xs ys : List Int} (j : Nat), xs.length = ys.length → (subR q xs ys).getD j 0 = xs.getD j 0 - q * ys.getD j 0
  | [], [], j, _ => by simp [subR]
  | [], _ :: _, _, h => by simp at h
  | _ :: _, [], _, h => by simp at h
  | x :: xs, y :: ys, 0, _ => by simp [subR]
  | x :: xs, y :: ys, j + 1, h => by
    have := getD_sub (q := q) (xs := xs) (ys := ys) j (by simpa using h)
    simpa [subR] using this
theorem ent_of {i : Nat} {xs : List Int} (h : R[i]? = some xs) (j : Nat) : ent R i j = xs.getD j 0 := by
  unfold ent
  rw [List.getD_eq_getElem?_getD (l := R), h]; rfl
theorem ent_out {i j : Nat} (h : R.length ≤ i) : ent R i j = 0 := by
  unfold ent
  rw [List.getD_eq_getElem?_getD (l := R), List.getElem?_eq_none h]; rfl
theorem ent_eq {R' : List (List Int)} {i j : Nat} (h : R'[i]? = R[i]?) : ent R' i j = ent R i j := by
  unfold ent
  rw [List.getD_eq_getElem?_getD (l := R'), h, ← List.getD_eq_getElem?_getD]
/-- all numbers are at most M -/
def Eb (R : List (List Int)) (M : Nat) : Prop := ∀ i j, (ent R i j).natAbs ≤ M
theorem Eb.mem {M i : Nat} {xs : List Int} (h : Eb R M) (e : R[i]? = some xs) : ∀ x ∈ xs, x.natAbs ≤ M := fun x hx => by
  obtain ⟨j, hj, rfl⟩ := List.getElem_of_mem hx
  have := h i j
  rw [ent_of e, List.getD_eq_getElem?_getD, List.getElem?_eq_getElem hj] at this
  exact this
theorem Eb.of_mem {M : Nat} (h : ∀ xs ∈ R, ∀ x ∈ xs, x.natAbs ≤ M) : Eb R M := fun i j => by
  unfold ent
  rw [List.getD_eq_getElem?_getD (l := R)]
  cases e : R[i]? with
  | none => simp
  | some xs =>
    show ((xs.getD j 0).natAbs) ≤ M
    rw [List.getD_eq_getElem?_getD]
    cases e2 : xs[j]? with
    | none => simp
    | some x => exact h xs (List.mem_of_getElem? e) x (List.mem_of_getElem? e2)
theorem Eb.mono {M M' : Nat} (h : Eb R M) (l : M ≤ M') : Eb R M' := fun i j => Nat.le_trans (h i j) l
theorem abs_sub (x q y : Int) : (x - q * y).natAbs ≤ x.natAbs + q.natAbs * y.natAbs := by
  have := Int.natAbs_sub_le x (q * y)
  rw [Int.natAbs_mul] at this
  exact this
/-- rows of one width -/
def Wd (R : List (List Int)) (w : Nat) : Prop := ∀ xs ∈ R, xs.length = w
theorem Wd.at {w i : Nat} {xs : List Int} (h : Wd R w) (e : R[i]? = some xs) : xs.length = w := h xs (List.mem_of_getElem? e)
theorem Wd.set {w i : Nat} {xs : List Int} (h : Wd R w) (e : xs.length = w) : Wd (R.set i xs) w := fun ys hy => by
  rcases List.mem_or_eq_of_mem_set hy with z | z
  · exact h ys z
  · rw [z]; exact e
theorem subR_len {q : Int} {xs ys : List Int} {w : Nat} (h1 : xs.length = w) (h2 : ys.length = w) : (subR q xs ys).length = w := by
  unfold subR
  rw [List.length_zipWith, h1, h2, Nat.min_self]
/-- a row less another one -/
theorem ent_take {w i l : Nat} {q : Int} {xi xl : List Int} (hw : Wd R w) (hi : R[i]? = some xi) (hl : R[l]? = some xl) (i' j : Nat) : ent (R.set i (subR q xi xl)) i' j = if i' = i then ent R i j - q * ent R l j else ent R i' j := by
  rw [ent_set (List.getElem?_eq_some_iff.mp hi).1]
  by_cases h : i' = i
  · rw [if_pos h, if_pos h, getD_sub j (by rw [hw.at hi, hw.at hl]), ent_of hi, ent_of hl]
  · rw [if_neg h, if_neg h]
theorem Eb.take {w i l M : Nat} {q : Int} {xi xl : List Int} (h : Eb R M) (hw : Wd R w) (hi : R[i]? = some xi) (hl : R[l]? = some xl) : Eb (R.set i (subR q xi xl)) (M * (1 + q.natAbs)) := fun i' j => by
  rw [ent_take hw hi hl]
  have h1 : M ≤ M * (1 + q.natAbs) := Nat.le_mul_of_pos_right _ (by omega)
  split
  · have := abs_sub (ent R i j) q (ent R l j)
    have h2 : q.natAbs * (ent R l j).natAbs ≤ q.natAbs * M := Nat.mul_le_mul_left _ (h l j)
    have h3 := h i j
    have : M * (1 + q.natAbs) = M + q.natAbs * M := by rw [Nat.mul_add, Nat.mul_one, Nat.mul_comm M]
    omega
  · exact Nat.le_trans (h i' j) h1
/-- the weight of a number: its sign as told, or not -/
def wt (σ : Bool) (e : Int) : Nat := if e = 0 then 1 else if decide (0 < e) = σ then 2 * e.natAbs else 6 * e.natAbs
theorem wt_pos (σ : Bool) (e : Int) : 1 ≤ wt σ e := by
  unfold wt
  split
  · omega
  · split <;> omega
theorem wt_le (σ : Bool) (e : Int) (B : Nat) (h : e.natAbs ≤ B) (hB : 1 ≤ B) : wt σ e ≤ 6 * B := by
  unfold wt
  split
  · omega
  · split <;> omega
theorem op_pos {e l : Int} (hl : 0 < l) (he : l.natAbs ≤ e.natAbs) : (1 + (e.fdiv l).natAbs) * wt true (e - e.fdiv l * l) ≤ wt true e ∧ (e - e.fdiv l * l = 0 ∨ 0 < e - e.fdiv l * l) ∧ (e - e.fdiv l * l).natAbs < l.natAbs := by
  have h0 : e - e.fdiv l * l = e.fmod l := by rw [Int.fmod_def, Int.mul_comm]
  rw [h0]
  have h1 := Int.fmod_nonneg_of_pos e hl
  have h2 := Int.fmod_lt_of_pos e hl
  have h3 : e.fdiv l * l = e - e.fmod l := by omega
  generalize e.fmod l = m at *
  generalize e.fdiv l = q at *
  refine ⟨?_, by omega, by omega⟩
  have e0 : e ≠ 0 := by omega
  by_cases hp : 0 < e
  · have hq : 0 < q := by
      by_cases z : q ≤ 0
      · have : q * l ≤ 0 := Int.mul_nonpos_of_nonpos_of_nonneg z (by omega)
        omega
      · omega
    have hqe : q ≤ e := by
      have : q * 1 ≤ q * l := Int.mul_le_mul_of_nonneg_left (by omega) (by omega)
      omega
    have w2 : wt true e = 2 * e.natAbs := by unfold wt; rw [if_neg e0, if_pos (by simp [hp])]
    rw [w2]
    by_cases hm : m = 0
    · have : wt true m = 1 := by unfold wt; rw [if_pos hm]
      rw [this]; omega
    · have w1 : wt true m = 2 * m.natAbs := by unfold wt; rw [if_neg hm, if_pos (by simp; omega)]
      rw [w1]
      have k1 : q * m ≤ q * (l - 1) := Int.mul_le_mul_of_nonneg_left (by omega) (by omega)
      have k2 : q * (l - 1) = e - m - q := by rw [Int.mul_sub, h3]; omega
      have k3 : ((1 + q.natAbs) * (2 * m.natAbs) : Nat) = (2 * (m + q * m)).natAbs := by
        have : (2 * (m + q * m)) = (1 + q) * (2 * m) := by
          rw [Int.add_mul, Int.one_mul, Int.mul_add, Int.mul_left_comm]
        rw [this, Int.natAbs_mul, Int.natAbs_mul]
        congr 1
        omega
      rw [k3]
      have k4 : 0 ≤ q * m := Int.mul_nonneg (by omega) h1
      omega
  · have hn : e < 0 := by omega
    have hq : q < 0 := by
      by_cases z : 0 ≤ q
      · have : 0 ≤ q * l := Int.mul_nonneg z (by omega)
        omega
      · omega
    have hql : -q * l = -e + m := by rw [Int.neg_mul, h3]; omega
    have hqe : -q ≤ -e := by
      have k1 : -q * 1 ≤ -q * l := Int.mul_le_mul_of_nonneg_left (by omega) (by omega)
      by_cases hz : -q ≤ -e
      · exact hz
      · exfalso
        have k2 : l * (-e + 1) ≤ l * -q := Int.mul_le_mul_of_nonneg_left (by omega) (by omega)
        rw [Int.mul_comm l (-q), hql, Int.mul_add, Int.mul_one] at k2
        have k3 : 1 * -e ≤ l * -e := Int.mul_le_mul_of_nonneg_right (by omega) (by omega)
        omega
    have w2 : wt true e = 6 * e.natAbs := by unfold wt; rw [if_neg e0, if_neg (by simp; omega)]
    rw [w2]
    by_cases hm : m = 0
    · have : wt true m = 1 := by unfold wt; rw [if_pos hm]
      rw [this]; omega
    · have w1 : wt true m = 2 * m.natAbs := by unfold wt; rw [if_neg hm, if_pos (by simp; omega)]
      rw [w1]
      have k1 : -q * m ≤ -q * l := Int.mul_le_mul_of_nonneg_left (by omega) (by omega)
      have k3 : ((1 + q.natAbs) * (2 * m.natAbs) : Nat) = (2 * (m + -q * m)).natAbs := by
        have : (2 * (m + -q * m)) = (1 + -q) * (2 * m) := by
          rw [Int.add_mul, Int.one_mul, Int.mul_add, Int.mul_left_comm]
        rw [this, Int.natAbs_mul, Int.natAbs_mul]
        congr 1
        omega
      rw [k3]
      have k4 : 0 ≤ -q * m := Int.mul_nonneg (by omega) h1
      omega
theorem wt_neg (σ : Bool) {e : Int} : wt (!σ) (-e) = wt σ e := by
  unfold wt
  by_cases h : e = 0
  · rw [if_pos h, if_pos (by omega)]
  · rw [if_neg h, if_neg (by omega), Int.natAbs_neg]
    have : decide (0 < -e) = !decide (0 < e) := by
      by_cases z : 0 < e
      · simp [z]; omega
      · simp [z]; omega
    rw [this]
    cases σ <;> cases decide (0 < e) <;> simp
theorem fdiv_neg2 (e l : Int) : (-e).fdiv (-l) = e.fdiv l := Int.neg_fdiv_neg e l
/-- taking a number from one that is not smaller -/
theorem op_ok {e l : Int} (hl : l ≠ 0) (he : l.natAbs ≤ e.natAbs) : (1 + (e.fdiv l).natAbs) * wt (decide (0 < l)) (e - e.fdiv l * l) ≤ wt (decide (0 < l)) e ∧ (e - e.fdiv l * l = 0 ∨ decide (0 < e - e.fdiv l * l) = decide (0 < l)) ∧ (e - e.fdiv l * l).natAbs < l.natAbs := by
  by_cases hp : 0 < l
  · obtain ⟨h1, h2, h3⟩ := op_pos hp he
    have : decide (0 < l) = true := by simp [hp]
    rw [this]
    refine ⟨h1, ?_, h3⟩
    rcases h2 with h | h
    · exact .inl h
    · exact .inr (by simp; omega)
  · obtain ⟨h1, h2, h3⟩ := op_pos (e := -e) (l := -l) (by omega) (by omega)
    rw [fdiv_neg2] at h1 h2 h3
    have e1 : -e - e.fdiv l * -l = -(e - e.fdiv l * l) := by rw [Int.mul_neg]; omega
    rw [e1] at h1 h2 h3
    have : decide (0 < l) = false := by simp [hp]
    rw [this]
    have n1 : ∀ z : Int, wt true (-z) = wt false z := fun z => wt_neg false
    rw [n1, n1] at h1
    refine ⟨h1, ?_, by omega⟩
    rcases h2 with h | h
    · exact .inl (by omega)
    · exact .inr (by simp; omega)
/-- the weights of a column, multiplied -/
def pw (σ : Bool) (col : Nat) : List (List Int) → Nat
  | [] => 1
  | xs :: r => wt σ (xs.getD col 0) * pw σ col r
theorem pw_pos (σ : Bool) (col : Nat) : ∀ rows, 1 ≤ pw σ col rows
  | [] => Nat.le_refl _
  | xs :: r => Nat.mul_pos (wt_pos _ _) (pw_pos σ col r)
theorem pw_le (σ : Bool) (col B : Nat) (hB : 1 ≤ B) : ∀ rows : List (List Int), (∀ xs ∈ rows, (xs.getD col 0).natAbs ≤ B) → pw σ col rows ≤ (6 * B) ^ rows.length
  | [], _ => Nat.le_refl _
  | xs :: r, h => by
    rw [List.length_cons, Nat.pow_succ, Nat.mul_comm]
    exact Nat.mul_le_mul (wt_le σ _ B (h xs (by simp)) hB) (pw_le σ col B hB r fun ys hy => h ys (by simp [hy]))
theorem pw_set (σ : Bool) (col : Nat) : ∀ {rows : List (List Int)} {i : Nat} {xs : List Int}, rows[i]? = some xs → ∃ rest, pw σ col rows = wt σ (xs.getD col 0) * rest ∧ ∀ ys, pw σ col (rows.set i ys) = wt σ (ys.getD col 0) * rest
  | [], _, _, h => by simp at h
  | x :: r, 0, xs, h => by
    simp at h
    subst h
    exact ⟨pw σ col r, rfl, fun ys => rfl⟩
  | x :: r, i + 1, xs, h => by
    obtain ⟨rest, h1, h2⟩ := pw_set σ col (rows := r) (i := i) (xs := xs) (by simpa using h)
    refine ⟨wt σ (x.getD col 0) * rest, ?_, fun ys => ?_⟩
    · show wt σ (x.getD col 0) * pw σ col r = _
      rw [h1, Nat.mul_left_comm]
    · show wt σ (x.getD col 0) * pw σ col (r.set i ys) = _
      rw [h2, Nat.mul_left_comm]
theorem drop_set' {i step : Nat} {xs : List Int} (h : step ≤ i) : (R.set i xs).drop step = (R.drop step).set (i - step) xs := by
  rw [List.drop_set, if_neg (by omega)]
theorem get_drop {i step : Nat} (h : step ≤ i) : (R.drop step)[i - step]? = R[i]? := by
  rw [List.getElem?_drop]; congr 1; omega
end


section
variable {R0 T0 R T R1 T1 : List (List Int)} {L : List Nat}
/-- the tables while a column is worked through -/
structure PS (R0 T0 R T : List (List Int)) (w N step : Nat) (L : List Nat) (M : Nat) : Prop where
  wR : Wd R w
  wT : Wd T N
  lR : R.length = N
  lT : T.length = N
  eR : Eb R M
  eT : Eb T M
  up : ∀ i, i < step → R[i]? = R0[i]? ∧ T[i]? = T0[i]?
  zr : ∀ c ∈ L, ∀ i, step ≤ i → ent R i c = 0
theorem PS.take {w N step M i l : Nat} {q : Int} {xi xl yi yl : List Int} (h : PS R0 T0 R T w N step L M) (hi : R[i]? = some xi) (hl : R[l]? = some xl) (ti : T[i]? = some yi) (tl : T[l]? = some yl) (si : step ≤ i) (sl : step ≤ l) :
    PS R0 T0 (R.set i (subR q xi xl)) (T.set i (subR q yi yl)) w N step L (M * (1 + q.natAbs)) where
  wR := h.wR.set (subR_len (h.wR.at hi) (h.wR.at hl))
  wT := h.wT.set (subR_len (h.wT.at ti) (h.wT.at tl))
  lR := by rw [List.length_set]; exact h.lR
  lT := by rw [List.length_set]; exact h.lT
  eR := h.eR.take h.wR hi hl
  eT := h.eT.take h.wT ti tl
  up := fun j hj => by rw [List.getElem?_set_ne (by omega), List.getElem?_set_ne (by omega)]; exact h.up j hj
  zr := fun c hc j hj => by
    rw [ent_take h.wR hi hl]
    split
    · rw [h.zr c hc i si, h.zr c hc l sl]; simp
    · exact h.zr c hc j hj
theorem PS.at {w N step M i : Nat} (h : PS R0 T0 R T w N step L M) (hi : i < N) : ∃ xi yi, R[i]? = some xi ∧ T[i]? = some yi := ⟨_, _, List.getElem?_eq_getElem (by rw [h.lR]; exact hi), List.getElem?_eq_getElem (by rw [h.lT]; exact hi)⟩
theorem log2_le {x b : Nat} (h : x < 2 ^ b) : x.log2 ≤ b := by
  by_cases hx : x = 0
  · subst hx; simp
  · have := (Nat.log2_lt hx).mpr h; omega
theorem mulOk_b {i j : Int} {b : Nat} (hb : b ≤ 10000000) (hi : i.natAbs < 2 ^ b) (hj : j.natAbs < 2 ^ b) : mulOk i j := by
  have h1 := log2_le hi
  have h2 := log2_le hj
  exact .inr (.inr (by omega))
theorem divOk_b {j : Int} {b : Nat} (hb : b < 9000) (h0 : j ≠ 0) (hj : j.natAbs < 2 ^ b) : divOk j := ⟨h0, by have := log2_le hj; omega⟩
/-- one taking: the weights -/
theorem pw_take {w N step M K i l col : Nat} {xi xl yi yl : List Int} (h : PS R0 T0 R T w N step L M) (hi : R[i]? = some xi) (hl : R[l]? = some xl) (si : step ≤ i) (hne : ent R l col ≠ 0) (hle : (ent R l col).natAbs ≤ (ent R i col).natAbs) (hK : M * pw (decide (0 < ent R l col)) col (R.drop step) ≤ K) :
    M * (1 + ((ent R i col).fdiv (ent R l col)).natAbs) * pw (decide (0 < ent R l col)) col ((R.set i (subR ((ent R i col).fdiv (ent R l col)) xi xl)).drop step) ≤ K := by
  obtain ⟨h1, _, _⟩ := op_ok hne hle
  rw [drop_set' si]
  obtain ⟨rest, p1, p2⟩ := pw_set (decide (0 < ent R l col)) col (rows := R.drop step) (i := i - step) (xs := xi) (by rw [get_drop si]; exact hi)
  rw [p2, getD_sub col (by rw [h.wR.at hi, h.wR.at hl]), ← ent_of hi, ← ent_of hl]
  rw [p1, ← ent_of hi] at hK
  refine Nat.le_trans ?_ hK
  rw [Nat.mul_assoc, ← Nat.mul_assoc (1 + _) _ rest]
  exact Nat.mul_le_mul_left _ (Nat.mul_le_mul_right _ h1)
end
section
variable {k n s a b c : Nat} {S : Store} {ρ : En} {Q : D → Store → Prop} {R T R0 T0 R1 T1 : List (List Int)} {L : List Nat}
theorem c_take (h : Stp n S s a b c R T L) {i1 i2 i j : Nat} {q : Int} {xi xj yi yj : List Int} {E : Ev} (h0 : ρ[0]? = some (some (.ref s))) (h1 : ρ[i1]? = some (some (natD i))) (h2 : ρ[i2]? = some (some (natD j))) (hE : PM (E ρ) S fun d S' => d = .int q ∧ S' = S)
    (hi : R[i]? = some xi) (hj : R[j]? = some xj) (ti : T[i]? = some yi) (tj : T[j]? = some yj) (hm : ∀ y ∈ xj, mulOk q y) (hm2 : ∀ y ∈ yj, mulOk q y) (hl : xi.length < sizeLine) (hl2 : yi.length < sizeLine)
    (hQ : ∀ S', Kp a b S S' → Stp n S' s a b c (R.set i (subR q xi xj)) (T.set i (subR q yi yj)) L → Q .non S') :
    PM (eMeth Γ (CC (k + 1)) "take" (eSlot 0) (aCons (eSlot i1) (aCons (eSlot i2) (aCons E aNil))) ρ) S Q := by
  rw [PM_meth, PM_slot h0, PM_clsR h.ob rfl]
  refine ⟨(6, 4), rfl, ?_⟩
  rw [PM_aCons, PM_slot h1, PM_aCons, PM_slot h2, PM_aCons]
  refine hE.imp ?_
  rintro _ _ ⟨rfl, rfl⟩
  rw [PM_aNil]
  refine ⟨rfl, (m_take h hi hj ti tj hm hm2 hl hl2).imp ?_⟩
  rintro _ S' ⟨rfl, f, h'⟩
  exact hQ S' f h'
theorem c_places (h : Stp n S s a b c R T L) {i1 i2 col step w : Nat} (h0 : ρ[0]? = some (some (.ref s))) (h1 : ρ[i1]? = some (some (natD col))) (h2 : ρ[i2]? = some (some (natD step))) (hw : Wd R w) (hc : col < w) (hR : R.length < 1000) (hs : step ≤ R.length)
    (hQ : Q (.ref S.length) (S ++ [.lst ((plc R col step).map natD)])) : PM (eMeth Γ (CC (k + 1)) "places" (eSlot 0) (aCons (eSlot i1) (aCons (eSlot i2) aNil)) ρ) S Q := by
  rw [PM_meth, PM_slot h0, PM_clsR h.ob rfl]
  refine ⟨(5, 3), rfl, ?_⟩
  rw [PM_aCons, PM_slot h1, PM_aCons, PM_slot h2, PM_aNil]
  refine ⟨rfl, (m_places h hw hc hR hs).imp ?_⟩
  rintro _ S' ⟨rfl, rfl⟩
  exact hQ
theorem plc_nodup {col step : Nat} : (plc R col step).Nodup := by
  unfold plc
  refine List.Pairwise.filter _ ?_
  refine List.Pairwise.map _ (fun x y h => ?_) List.nodup_range
  intro z
  exact h (by omega)
abbrev rhoC (s col step : Nat) (p l x y : Option D) : En := [some (.ref s), some (natD col), some (natD step), p, l, x, y]
/-- the pass over the places -/
theorem pass_loop (h : Stp n S s a b c R1 T1 L) {w N step M K kb eb col l0 p : Nat} {x y : Option D} {P : List Nat} {U : RS → Prop} (hP : P = plc R1 col step) (ps : PS R0 T0 R1 T1 w N step L M) (hp : S[p]? = some (.lst (P.map natD))) (hcol : col < w) (hN : N < 1000) (hw9 : w < 1000)
    (hl0 : l0 ∈ P) (hmin : ∀ i ∈ P, (ent R1 l0 col).natAbs ≤ (ent R1 i col).natAbs) (hK : M * pw (decide (0 < ent R1 l0 col)) col (R1.drop step) ≤ K) (hkb : K < 2 ^ kb) (hkb2 : kb ≤ 10000000) (heb : (ent R1 l0 col).natAbs < 2 ^ eb) (heb2 : eb < 9000) (hpa : p ≠ a) (hpb : p ≠ b)
    (hU : ∀ S' R T M' x y, Kp a b S S' → Stp n S' s a b c R T L → PS R0 T0 R T w N step L M' → M' * pw (decide (0 < ent R1 l0 col)) col (R.drop step) ≤ K →
      (∀ i, step ≤ i → i < N → i ≠ l0 → (ent R i col = 0 ∨ decide (0 < ent R i col) = decide (0 < ent R1 l0 col)) ∧ (ent R i col).natAbs < (ent R1 l0 col).natAbs) → ent R l0 col = ent R1 l0 col → U (.nx (rhoC s col step (some (.ref p)) (some (natD l0)) x y) S')) :
    PZ (sFor (iSeq (eSlot 3)) (.one 5) (sIf (tCmp (cOwn Γ (CC (k + 1)) "__ne__" cNe) (eSlot 5) (eSlot 4)) (sDrop (eMeth Γ (CC (k + 1)) "take" (eSlot 0) (aCons (eSlot 5) (aCons (eSlot 4) (aCons (eOp oFdiv (eOp oIx (eOp oIx (eUn (oFld Γ "rows") (eSlot 0)) (eSlot 5)) (eSlot 1)) (eOp oIx (eOp oIx (eUn (oFld Γ "rows") (eSlot 0)) (eSlot 4)) (eSlot 1))) aNil))))) sNx))
      (rhoC s col step (some (.ref p)) (some (natD l0)) x y) S U := by
  have hl0' := plc_mem.mp (hP ▸ hl0)
  have big := sizeLine_big
  rw [PZ_for, PM_iSeq, PM_slot (i := 3) (d := .ref p) rfl, PM_seqL hp]
  refine PZ_go (fun j ρ S' => ∃ R T M' x y, ρ = rhoC s col step (some (.ref p)) (some (natD l0)) x y ∧ Kp a b S S' ∧ Stp n S' s a b c R T L ∧ PS R0 T0 R T w N step L M' ∧ M' * pw (decide (0 < ent R1 l0 col)) col (R.drop step) ≤ K ∧
    (∀ i, i ∈ P.take j → i ≠ l0 → (ent R i col = 0 ∨ decide (0 < ent R i col) = decide (0 < ent R1 l0 col)) ∧ (ent R i col).natAbs < (ent R1 l0 col).natAbs) ∧ ∀ i, (i ∉ P.take j ∨ i = l0) → R[i]? = R1[i]?) ⟨R1, T1, M, x, y, rfl, Kp.refl, h, ps, hK, fun i hi => by simp at hi, fun i _ => rfl⟩ ?_ ?_
  · rintro j d ρ S' hj ⟨R, T, M', x, y, rfl, kp, st, ps', hK', hs1, hs2⟩
    rw [List.getElem?_map] at hj
    obtain ⟨i, hi, rfl⟩ := Option.map_eq_some_iff.mp hj
    have hiP : i ∈ P := List.mem_of_getElem? hi
    have hi' := plc_mem.mp (hP ▸ hiP)
    have tk : P.take (j + 1) = P.take j ++ [i] := by rw [List.take_succ, hi]; rfl
    have hnt : i ∉ P.take j := fun z => by
      obtain ⟨m, hm, e⟩ := List.getElem_of_mem z
      rw [List.length_take] at hm
      rw [List.getElem_take] at e
      have nd : P.Nodup := hP ▸ plc_nodup
      have hjl := (List.getElem?_eq_some_iff.mp hi).1
      have hij := (List.getElem?_eq_some_iff.mp hi).2
      have := (List.getElem_inj nd (i := m) (j := j) (h₀ := by omega) (h₁ := hjl)).mp (e.trans hij.symm)
      omega
    refine ⟨kp.get hp hpa hpb, _, rfl, ?_⟩
    change PZ _ (rhoC s col step (some (.ref p)) (some (natD l0)) (some (natD i)) y) S' _
    rw [PZ_if, PM_tCmp, PM_slot (i := 5) (d := natD i) rfl, PM_slot (i := 4) (d := natD l0) rfl]
    unfold natD
    rw [own_int, PM_nei]
    by_cases hil : i = l0
    · have e1 : (!decide ((i : Int) = (l0 : Int))) = false := by simp [hil]
      rw [e1]
      simp only [Bool.false_eq_true, if_false, PZ_nx, TQ_nx]
      refine ⟨R, T, M', _, y, rfl, kp, st, ps', hK', fun i' hi2 hne => ?_, fun i' hi2 => ?_⟩
      · rw [tk] at hi2
        rcases List.mem_append.mp hi2 with z | z
        · exact hs1 i' z hne
        · exact absurd ((List.mem_singleton.mp z).trans hil) hne
      · rcases hi2 with z | z
        · exact hs2 i' (.inl fun q => z (by rw [tk]; exact List.mem_append_left _ q))
        · exact hs2 i' (.inr z)
    · have e1 : (!decide ((i : Int) = (l0 : Int))) = true := by simp; omega
      rw [e1]
      simp only [if_true, PZ_drop]
      obtain ⟨xi, yi, hxi, hyi⟩ := ps'.at (i := i) (by have := ps.lR; omega)
      obtain ⟨xl, yl, hxl, hyl⟩ := ps'.at (i := l0) (by have := ps.lR; omega)
      have ei : ent R i col = ent R1 i col := ent_eq (hs2 i (.inl hnt))
      have el : ent R l0 col = ent R1 l0 col := ent_eq (hs2 l0 (.inr rfl))
      have hne : ent R l0 col ≠ 0 := by rw [el]; exact hl0'.2.2
      have hle : (ent R l0 col).natAbs ≤ (ent R i col).natAbs := by rw [el, ei]; exact hmin i hiP
      have hK2 : M' * pw (decide (0 < ent R l0 col)) col (R.drop step) ≤ K := by rw [el]; exact hK'
      obtain ⟨o1, o2, o3⟩ := op_ok hne hle
      have pt := pw_take (xi := xi) (xl := xl) (yi := yi) (yl := yl) ps' hxi hxl hi'.1 hne hle hK2
      have hMK : M' * (1 + ((ent R i col).fdiv (ent R l0 col)).natAbs) ≤ K := Nat.le_trans (Nat.le_mul_of_pos_right _ (pw_pos _ _ _)) pt
      have hM1 : M' ≤ K := Nat.le_trans (Nat.le_mul_of_pos_right _ (by omega)) hMK
      generalize hq : (ent R i col).fdiv (ent R l0 col) = q at *
      have hRl : R.length = N := ps'.lR
      have hR1 := ps.lR
      have hM0 : 1 ≤ M' := by
        have := ps'.eR l0 col
        have : 1 ≤ (ent R l0 col).natAbs := by omega
        omega
      have hqK : q.natAbs ≤ K := by
        have : 1 * (1 + q.natAbs) ≤ M' * (1 + q.natAbs) := Nat.mul_le_mul_right _ hM0
        omega
      have g1 : xi[col]? = some (ent R i col) := by
        obtain ⟨xs, q1, q2⟩ := ent_at ps'.wR (i := i) (by omega) hcol
        rw [hxi] at q1; cases q1; exact q2
      have g2 : xl[col]? = some (ent R l0 col) := by
        obtain ⟨xs, q1, q2⟩ := ent_at ps'.wR (i := l0) (by omega) hcol
        rw [hxl] at q1; cases q1; exact q2
      refine c_take (k := k) st (i1 := 5) (i2 := 4) (i := i) (j := l0) (q := q) rfl rfl rfl ?_ hxi hxl hyi hyl (fun z hz => mulOk_b hkb2 (by omega) (by have := ps'.eR.mem hxl z hz; omega)) (fun z hz => mulOk_b hkb2 (by omega) (by have := ps'.eT.mem hyl z hz; omega)) (by rw [ps'.wR.at hxi]; omega) (by rw [ps'.wT.at hyi]; omega) fun S2 kp2 st2 => ?_
      · rw [PM_eOp, rd_ent st (i := 0) (j := 5) (l := 1) rfl rfl rfl hxi g1, rd_ent st (i := 0) (j := 4) (l := 1) rfl rfl rfl hxl g2, PM_fdiv]
        exact ⟨divOk_b heb2 hne (by rw [el]; exact heb), by rw [hq], rfl⟩
      · refine ⟨_, _, _, _, y, rfl, kp.trans kp2, st2, ps'.take hxi hxl hyi hyl hi'.1 hl0'.1, by rw [← el]; exact pt, fun i' hi2 hne' => ?_, fun i' hi2 => ?_⟩
        · rw [ent_take ps'.wR hxi hxl]
          by_cases hii : i' = i
          · rw [if_pos hii, ← el]
            exact ⟨o2, o3⟩
          · rw [if_neg hii]
            rw [tk] at hi2
            rcases List.mem_append.mp hi2 with z | z
            · exact hs1 i' z hne'
            · exact absurd (List.mem_singleton.mp z) hii
        · have hii : i' ≠ i := by
            rcases hi2 with z | z
            · exact fun q => z (by rw [tk, q]; simp)
            · rw [z]; exact fun q => hil q.symm
          rw [List.getElem?_set_ne (Ne.symm hii)]
          rcases hi2 with z | z
          · exact hs2 i' (.inl fun q => z (by rw [tk]; exact List.mem_append_left _ q))
          · exact hs2 i' (.inr z)
  · rintro ρ S' ⟨R, T, M', x, y, rfl, kp, st, ps', hK', hs1, hs2⟩
    rw [List.length_map, List.take_length] at hs1 hs2
    refine ⟨kp.get hp hpa hpb, hU S' R T M' x y kp st ps' hK' (fun i h1 h2 h3 => ?_) (ent_eq (hs2 l0 (.inr rfl)))⟩
    by_cases hi : i ∈ P
    · exact hs1 i hi h3
    · have e := ent_eq (j := col) (hs2 i (.inl hi))
      have z : ent R1 i col = 0 := by
        by_cases hz : ent R1 i col = 0
        · exact hz
        · exact absurd (hP ▸ plc_mem.mpr ⟨h1, by rw [ps.lR]; exact h2, hz⟩) hi
      rw [e, z]
      exact ⟨.inl rfl, by have := hl0'.2.2; simp; omega⟩
end


section
variable {k n s a b c : Nat} {S : Store} {ρ : En} {Q : D → Store → Prop} {R T R0 T0 R1 T1 : List (List Int)} {L : List Nat}
theorem key_ok (h : Stp n S s a b c R T L) {w i col : Nat} (hw : Wd R w) (hi : i < R.length) (hc : col < w) : eUn fAbs (eOp oIx (eOp oIx (eUn (oFld Γ "rows") (eSlot 2)) (eSlot 0)) (eSlot 1)) [some (.int (i : Nat)), some (natD col), some (.ref s)] S = some (.ok (.int ((ent R i col).natAbs : Nat)) S) := by
  refine fn_eq ?_
  obtain ⟨xs, e1, e2⟩ := ent_at hw hi hc
  rw [PM_eUn, rd_ent h (i := 2) (j := 0) (l := 1) rfl rfl rfl e1 e2, PM_abs]
  refine ⟨?_, rfl⟩
  congr 1
  split <;> omega
theorem while_col {w N step K kb eb col E : Nat} {U : RS → Prop} (hcol : col < w) (hN : N < 1000) (hw9 : w < 1000) (hkb : K < 2 ^ kb) (hkb2 : kb ≤ 10000000) (heb : E < 2 ^ eb) (heb2 : eb < 9000) (hsN : step ≤ N) :
    ∀ (m : Nat) (S : Store) (R T : List (List Int)) (M p : Nat) (l x y : Option D), Stp n S s a b c R T L → PS R0 T0 R T w N step L M → S[p]? = some (.lst ((plc R col step).map natD)) → p ≠ a → p ≠ b → plc R col step ≠ [] →
      (∀ i ∈ plc R col step, M * pw (decide (0 < ent R i col)) col (R.drop step) ≤ K) → (∀ i, step ≤ i → (ent R i col).natAbs ≤ E) → (1 < (plc R col step).length → ∃ i ∈ plc R col step, (ent R i col).natAbs ≤ m) →
      (∀ S' R T M p l x y, Kp a b S S' → Stp n S' s a b c R T L → PS R0 T0 R T w N step L M → S'[p]? = some (.lst ((plc R col step).map natD)) → (∃ i, plc R col step = [i]) → M ≤ K → (∀ i, step ≤ i → (ent R i col).natAbs ≤ E) → U (.nx (rhoC s col step (some (.ref p)) l x y) S')) →
      PZ (sWhile (tCmp cGt (eUn fLen (eSlot 3)) (eC (.int 1))) (sSeq (sAsg (gOne 4) (eMin [1, 0] 3 (eUn fAbs (eOp oIx (eOp oIx (eUn (oFld Γ "rows") (eSlot 2)) (eSlot 0)) (eSlot 1))) (eSlot 3)))
        (sSeq (sFor (iSeq (eSlot 3)) (.one 5) (sIf (tCmp (cOwn Γ (CC (k + 1)) "__ne__" cNe) (eSlot 5) (eSlot 4)) (sDrop (eMeth Γ (CC (k + 1)) "take" (eSlot 0) (aCons (eSlot 5) (aCons (eSlot 4) (aCons (eOp oFdiv (eOp oIx (eOp oIx (eUn (oFld Γ "rows") (eSlot 0)) (eSlot 5)) (eSlot 1)) (eOp oIx (eOp oIx (eUn (oFld Γ "rows") (eSlot 0)) (eSlot 4)) (eSlot 1))) aNil))))) sNx))
        (sAsg (gOne 3) (eMeth Γ (CC (k + 1)) "places" (eSlot 0) (aCons (eSlot 1) (aCons (eSlot 2) aNil))))))) (rhoC s col step (some (.ref p)) l x y) S U := by
  intro m
  induction m with
  | zero =>
    intro S R T M p l x y h ps hp hpa hpb hne hV hE hm hU
    have hl : ¬ 1 < (plc R col step).length := fun z => by
      obtain ⟨i, hi, h0⟩ := hm z
      have := (plc_mem.mp hi).2.2
      omega
    refine PZ_while ?_
    rw [PM_tCmp, PM_eUn, PM_slot (i := 3) (d := .ref p) rfl, PM_lenL hp, PM_eC, PM_gt, List.length_map]
    have e : decide ((1 : Int) < ((plc R col step).length : Int)) = false := by simp; omega
    rw [e]
    simp only [Bool.false_eq_true, if_false]
    have h1 : ∃ i, plc R col step = [i] := by
      match hP : plc R col step with
      | [] => exact absurd hP hne
      | [i] => exact ⟨i, rfl⟩
      | _ :: _ :: _ => rw [hP] at hl; simp at hl
    obtain ⟨i, hi⟩ := h1
    have hM : M ≤ K := Nat.le_trans (Nat.le_mul_of_pos_right _ (pw_pos _ _ _)) (hV i (by rw [hi]; simp))
    exact hU S R T M p l x y Kp.refl h ps hp ⟨i, hi⟩ hM hE
  | succ m ih =>
    intro S R T M p l x y h ps hp hpa hpb hne hV hE hm hU
    refine PZ_while ?_
    rw [PM_tCmp, PM_eUn, PM_slot (i := 3) (d := .ref p) rfl, PM_lenL hp, PM_eC, PM_gt, List.length_map]
    by_cases hl : 1 < (plc R col step).length
    · have e : decide ((1 : Int) < ((plc R col step).length : Int)) = true := by simp; omega
      rw [e]
      simp only [if_true]
      rw [PZ_seq, PZ_asg]
      refine PM_min ?_
      rw [PM_slot (i := 3) (d := .ref p) rfl]
      refine ⟨p, (plc R col step).map (fun i : Nat => (i : Int)), fun z => ((ent R z.toNat col).natAbs : Nat), rfl, by rw [hp, List.map_map]; rfl, by simpa using hne, fun z hz => ?_, fun z hz hb => ?_⟩
      · obtain ⟨i, hi, rfl⟩ := List.mem_map.mp hz
        exact key_ok h ps.wR (plc_mem.mp hi).2.1 hcol
      · obtain ⟨l0, hl0, rfl⟩ := List.mem_map.mp hz
        have hmin : ∀ i ∈ plc R col step, (ent R l0 col).natAbs ≤ (ent R i col).natAbs := fun i hi => by
          have := hb (i : Int) (List.mem_map.mpr ⟨i, hi, rfl⟩)
          exact Int.ofNat_le.mp this
        rw [PZ_one, SQ_nx]
        change PZ _ (rhoC s col step (some (.ref p)) (some (natD l0)) x y) S _
        rw [PZ_seq]
        have hl0' := plc_mem.mp hl0
        refine pass_loop (n := n) (c := c) (R0 := R0) (T0 := T0) (M := M) (K := K) (kb := kb) (eb := eb) h rfl ps hp hcol hN hw9 hl0 hmin (hV l0 hl0) hkb hkb2 (by have := hE l0 hl0'.1; omega) heb2 hpa hpb fun S' R' T' M' x' y' kp st ps' hK' hs hl0e => ?_
        rw [SQ_nx, PZ_asg]
        refine c_places st rfl rfl rfl ps'.wR hcol (by rw [ps'.lR]; exact hN) (by rw [ps'.lR]; exact hsN) ?_
        rw [PZ_one, TQ_nx]
        have hl0P : l0 ∈ plc R' col step := plc_mem.mpr ⟨hl0'.1, by rw [ps'.lR, ← ps.lR]; exact hl0'.2.1, by rw [hl0e]; exact hl0'.2.2⟩
        have hsm : ∀ i ∈ plc R' col step, i ≠ l0 → (decide (0 < ent R' i col) = decide (0 < ent R l0 col)) ∧ (ent R' i col).natAbs < (ent R l0 col).natAbs := fun i hi hne => by
          obtain ⟨q1, q2, q3⟩ := plc_mem.mp hi
          obtain ⟨z1, z2⟩ := hs i q1 (by rw [← ps'.lR]; exact q2) hne
          exact ⟨z1.resolve_left q3, z2⟩
        have lt := st.lt
        refine ih (S' ++ [.lst ((plc R' col step).map natD)]) R' T' M' S'.length (some (natD l0)) x' y' (st.ap _) ps' get_last (by omega) (by omega) (fun z => by rw [z] at hl0P; cases hl0P) (fun i hi => ?_) (fun i hi => ?_) (fun hlen => ?_) fun S2 R2 T2 M2 p2 l2 x2 y2 kp2 st2 ps2 hp2 h1 hM hE2 => hU S2 R2 T2 M2 p2 l2 x2 y2 (kp.trans (Kp.ap.trans kp2)) st2 ps2 hp2 h1 hM hE2
        · by_cases z : i = l0
          · rw [z, hl0e]; exact hK'
          · rw [(hsm i hi z).1]; exact hK'
        · by_cases z : i = l0
          · rw [z, hl0e]; exact hE l0 hl0'.1
          · by_cases hiN : i < N
            · have := (hs i hi hiN z).2
              have := hE l0 hl0'.1
              omega
            · rw [ent_out (by rw [ps'.lR]; omega)]; simp
        · obtain ⟨i, hi, hil⟩ : ∃ i ∈ plc R' col step, i ≠ l0 := by
            match hP : plc R' col step, (plc_nodup (R := R') (col := col) (step := step)) with
            | [], _ => rw [hP] at hlen; simp at hlen
            | [_], _ => rw [hP] at hlen; simp at hlen
            | u :: v :: r, nd =>
              by_cases hu : u = l0
              · refine ⟨v, by simp, fun z => ?_⟩
                have := List.nodup_cons.mp nd
                exact this.1 (by rw [hu, ← z]; simp)
              · exact ⟨u, by simp, hu⟩
          obtain ⟨i1, hi1, hb1⟩ := hm hl
          have z1 := (hsm i hi hil).2
          have z2 := hmin i1 hi1
          exact ⟨i, hi, by omega⟩
    · have e : decide ((1 : Int) < ((plc R col step).length : Int)) = false := by simp; omega
      rw [e]
      simp only [Bool.false_eq_true, if_false]
      have h1 : ∃ i, plc R col step = [i] := by
        match hP : plc R col step with
        | [] => exact absurd hP hne
        | [i] => exact ⟨i, rfl⟩
        | _ :: _ :: _ => rw [hP] at hl; simp at hl
      obtain ⟨i, hi⟩ := h1
      have hM : M ≤ K := Nat.le_trans (Nat.le_mul_of_pos_right _ (pw_pos _ _ _)) (hV i (by rw [hi]; simp))
      exact hU S R T M p l x y Kp.refl h ps hp ⟨i, hi⟩ hM hE
end


section
variable {k n s a b c : Nat} {S : Store} {ρ : En} {Q : D → Store → Prop} {R T R0 T0 R1 T1 R2 T2 : List (List Int)} {L : List Nat}
theorem ent_exch {i j i' c' : Nat} {xi xj : List Int} (hi : R[i]? = some xi) (hj : R[j]? = some xj) : ent ((R.set i xj).set j xi) i' c' = if i' = j then ent R i c' else if i' = i then ent R j c' else ent R i' c' := by
  rw [ent_set (by rw [List.length_set]; exact (List.getElem?_eq_some_iff.mp hj).1), ent_set (List.getElem?_eq_some_iff.mp hi).1, ent_of hi, ent_of hj]
theorem Wd.mem {w i : Nat} {xs : List Int} (h : Wd R w) (e : R[i]? = some xs) : xs.length = w := h.at e
theorem PS.exch {w N step M i j : Nat} {xi xj yi yj : List Int} (h : PS R0 T0 R T w N step L M) (hi : R[i]? = some xi) (hj : R[j]? = some xj) (ti : T[i]? = some yi) (tj : T[j]? = some yj) (si : step ≤ i) (sj : step ≤ j) : PS R0 T0 ((R.set i xj).set j xi) ((T.set i yj).set j yi) w N step L M where
  wR := (h.wR.set (h.wR.at hj)).set (h.wR.at hi)
  wT := (h.wT.set (h.wT.at tj)).set (h.wT.at ti)
  lR := by rw [List.length_set, List.length_set]; exact h.lR
  lT := by rw [List.length_set, List.length_set]; exact h.lT
  eR := fun i' c' => by rw [ent_exch hi hj]; split; exact h.eR _ _; split; exact h.eR _ _; exact h.eR _ _
  eT := fun i' c' => by rw [ent_exch ti tj]; split; exact h.eT _ _; split; exact h.eT _ _; exact h.eT _ _
  up := fun m hm => by rw [List.getElem?_set_ne (by omega), List.getElem?_set_ne (by omega), List.getElem?_set_ne (by omega), List.getElem?_set_ne (by omega)]; exact h.up m hm
  zr := fun c' hc m hm => by
    rw [ent_exch hi hj]
    split
    · exact h.zr c' hc i si
    · split
      · exact h.zr c' hc j sj
      · exact h.zr c' hc m hm
def negR (xs : List Int) : List Int := xs.map fun x => -x
theorem getD_neg : ∀ {xs : List Int} (j : Nat), (negR xs).getD j 0 = -(xs.getD j 0)
  | [], _ => by simp [negR]
  | x :: xs, 0 => by simp [negR]
  | x :: xs, j + 1 => by
    have := getD_neg (xs := xs) j
    simpa [negR] using this
theorem ent_neg {i i' c' : Nat} {xi : List Int} (hi : R[i]? = some xi) : ent (R.set i (negR xi)) i' c' = if i' = i then -(ent R i c') else ent R i' c' := by
  rw [ent_set (List.getElem?_eq_some_iff.mp hi).1, getD_neg, ent_of hi]
theorem PS.neg {w N step M i : Nat} {xi yi : List Int} (h : PS R0 T0 R T w N step L M) (hi : R[i]? = some xi) (ti : T[i]? = some yi) (si : step ≤ i) : PS R0 T0 (R.set i (negR xi)) (T.set i (negR yi)) w N step L M where
  wR := h.wR.set (by rw [show (negR xi).length = xi.length from List.length_map ..]; exact h.wR.at hi)
  wT := h.wT.set (by rw [show (negR yi).length = yi.length from List.length_map ..]; exact h.wT.at ti)
  lR := by rw [List.length_set]; exact h.lR
  lT := by rw [List.length_set]; exact h.lT
  eR := fun i' c' => by rw [ent_neg hi]; split; rw [Int.natAbs_neg]; exact h.eR _ _; exact h.eR _ _
  eT := fun i' c' => by rw [ent_neg ti]; split; rw [Int.natAbs_neg]; exact h.eT _ _; exact h.eT _ _
  up := fun m hm => by rw [List.getElem?_set_ne (by omega), List.getElem?_set_ne (by omega)]; exact h.up m hm
  zr := fun c' hc m hm => by
    rw [ent_neg hi]
    split
    · rw [h.zr c' hc i si]; rfl
    · exact h.zr c' hc m hm
/-- the statement that turns a row's signs -/
theorem neg_st {w N step M col : Nat} {p l x y : Option D} {U : RS → Prop} (h : Stp n S s a b c R T L) (ps : PS R0 T0 R T w N step L M) (hs : step < N) (hN : N < 1000) (hw9 : w < 1000)
    (hU : ∀ S' R' T' xi yi, R[step]? = some xi → T[step]? = some yi → R' = R.set step (negR xi) → T' = T.set step (negR yi) → Kp a b S S' → Stp n S' s a b c R' T' L → U (.nx (rhoC s col step p l x y) S')) :
    PZ (sSeq (sAsg (gSubS (eUn (oFld Γ "rows") (eSlot 0)) (eSlot 2)) (eComp [6] (iSeq (eOp oIx (eUn (oFld Γ "rows") (eSlot 0)) (eSlot 2))) (.one 6) tTrue (eUn oNeg (eSlot 6))))
      (sAsg (gSubS (eUn (oFld Γ "there") (eSlot 0)) (eSlot 2)) (eComp [6] (iSeq (eOp oIx (eUn (oFld Γ "there") (eSlot 0)) (eSlot 2))) (.one 6) tTrue (eUn oNeg (eSlot 6))))) (rhoC s col step p l x y) S U := by
  obtain ⟨xi, yi, hxi, hyi⟩ := ps.at hs
  have big := sizeLine_big
  rw [PZ_seq, PZ_asg]
  obtain ⟨r1, g1, n1, p1⟩ := rd_row (ρ := rhoC s col step p l x y) h (i := 0) (j := 2) rfl rfl hxi
  refine PM_mapc (fun z => .int (-z)) (pm_eq p1) (.inl ⟨r1, rfl, g1⟩) (by rw [ps.wR.at hxi]; omega) (fun z hz acc => ?_) ?_
  · simp only [PM_ret, PM_bind, PM_guard, PM_slot', PM_eC, PM_eOp, PM_eUn, PM_eT, PM_tV, PM_eAnd, PM_eOr, PM_tAnd, PM_tOr, PM_tNot, PM_eIf, PM_tIf, PM_tCmp, PM_tChn, PM_last, PM_more, PM_aNil, PM_aCons, PM_eTup, PM_eLst, PM_eCall, PM_eNew, PM_eDrop, PM_add, PM_sub, PM_mul, PM_fdiv, PM_mod, PM_pow, PM_neg, PM_lt, PM_le, PM_gt, PM_ge, PM_eqi, PM_nei, own_int, own_bl, own_tup, own_str, PM_isNon, PM_isBl, PM_isnot, PM_tbl, PM_tint, PM_tnon, PM_ttup, PM_lenT, PM_lenF, PM_int, PM_abs, PM_tupT, PM_lstF, PM_ixT, PM_eM, PM_iSeq, PM_seqT, PM_seqF, PM_rng1, PM_rng2, PM_enum, PZ_bind, PZ_nx, PZ_bk, PZ_ct, PZ_rt, SQ_nx, SQ_rt, SQ_ct, SQ_bk, TQ_nx, TQ_ct, TQ_bk, TQ_rt, PZ_seq, PZ_ret, PZ_drop, PZ_if, PZ_asg, PZ_one, PZ_par, PZ_allN, PZ_allC, PZ_tup, PZ_sub, PZ_fld, PZ_for, List.getElem?_cons_zero, List.getElem?_cons_succ, Option.some.injEq, exists_eq_left', exists_eq_left, List.set_cons_zero, List.set_cons_succ, setAll, List.length_cons, List.length_nil, List.map_cons, List.map_nil, Nat.reduceAdd, Nat.reduceSub, List.replicate, List.cons_append, List.nil_append, true_and, and_true, Bool.not_true, Bool.not_false, if_true, if_false, Bool.false_eq_true, D.int.injEq, D.isNon, D.isBl, Nat.reduceLeDiff, dropR_len, Nat.le_refl, ite_true, ite_false, reduceCtorEq, List.foldr_cons, List.foldr_nil]
  have e1 : xi.map (fun z => D.int (-z)) = (negR xi).map .int := by unfold negR; rw [List.map_map]; rfl
  rw [e1]
  have h1 := h.ap [.lst ((negR xi).map .int)]
  obtain ⟨ds, d1, d2, d3⟩ := h1.ra
  have hil : step < R.length := by rw [ps.lR]; exact hs
  have h2 := h1.putR (i := step) (r := S.length) (xs := negR xi) d1 get_last (by have := h.lt; omega) (by have := h.lt; omega) hil
  have dl : step < ds.length := by rw [d2.1]; exact hil
  rw [PZ_sub, rd_R h1 rfl, PM_slot (i := 2) (d := .int (step : Nat)) rfl, PM_putL d1 (ixN_nat dl), SQ_nx, PZ_asg]
  have f1 : Kp a b S ((S ++ [Cell.lst ((negR xi).map .int)]).set a (.lst (ds.set step (.ref S.length)))) := Kp.ap.trans Kp.setA
  generalize hS1 : (S ++ [Cell.lst ((negR xi).map .int)]).set a (.lst (ds.set step (.ref S.length))) = S1 at h2 f1 ⊢
  obtain ⟨r3, g3, n3, p3⟩ := rd_trow (ρ := rhoC s col step p l x y) h2 (i := 0) (j := 2) rfl rfl hyi
  refine PM_mapc (fun z => .int (-z)) (pm_eq p3) (.inl ⟨r3, rfl, g3⟩) (by rw [ps.wT.at hyi]; omega) (fun z hz acc => ?_) ?_
  · simp only [PM_ret, PM_bind, PM_guard, PM_slot', PM_eC, PM_eOp, PM_eUn, PM_eT, PM_tV, PM_eAnd, PM_eOr, PM_tAnd, PM_tOr, PM_tNot, PM_eIf, PM_tIf, PM_tCmp, PM_tChn, PM_last, PM_more, PM_aNil, PM_aCons, PM_eTup, PM_eLst, PM_eCall, PM_eNew, PM_eDrop, PM_add, PM_sub, PM_mul, PM_fdiv, PM_mod, PM_pow, PM_neg, PM_lt, PM_le, PM_gt, PM_ge, PM_eqi, PM_nei, own_int, own_bl, own_tup, own_str, PM_isNon, PM_isBl, PM_isnot, PM_tbl, PM_tint, PM_tnon, PM_ttup, PM_lenT, PM_lenF, PM_int, PM_abs, PM_tupT, PM_lstF, PM_ixT, PM_eM, PM_iSeq, PM_seqT, PM_seqF, PM_rng1, PM_rng2, PM_enum, PZ_bind, PZ_nx, PZ_bk, PZ_ct, PZ_rt, SQ_nx, SQ_rt, SQ_ct, SQ_bk, TQ_nx, TQ_ct, TQ_bk, TQ_rt, PZ_seq, PZ_ret, PZ_drop, PZ_if, PZ_asg, PZ_one, PZ_par, PZ_allN, PZ_allC, PZ_tup, PZ_sub, PZ_fld, PZ_for, List.getElem?_cons_zero, List.getElem?_cons_succ, Option.some.injEq, exists_eq_left', exists_eq_left, List.set_cons_zero, List.set_cons_succ, setAll, List.length_cons, List.length_nil, List.map_cons, List.map_nil, Nat.reduceAdd, Nat.reduceSub, List.replicate, List.cons_append, List.nil_append, true_and, and_true, Bool.not_true, Bool.not_false, if_true, if_false, Bool.false_eq_true, D.int.injEq, D.isNon, D.isBl, Nat.reduceLeDiff, dropR_len, Nat.le_refl, ite_true, ite_false, reduceCtorEq, List.foldr_cons, List.foldr_nil]
  have e2 : yi.map (fun z => D.int (-z)) = (negR yi).map .int := by unfold negR; rw [List.map_map]; rfl
  rw [e2]
  have h3 := h2.ap [.lst ((negR yi).map .int)]
  obtain ⟨es, q1, q2, q3⟩ := h3.rb
  have h4 := h3.putT (i := step) (r := S1.length) (xs := negR yi) q1 get_last (by have := h2.lt; omega) (by have := h2.lt; omega) (by rw [List.length_set]; exact hil)
  have el : step < es.length := by rw [q2.1, ← h.len]; exact hil
  rw [PZ_sub, rd_T h3 rfl, PM_slot (i := 2) (d := .int (step : Nat)) rfl, PM_putL q1 (ixN_nat el)]
  exact hU _ _ _ xi yi hxi hyi rfl rfl (f1.trans (Kp.ap.trans Kp.setB)) h4
theorem fdiv_abs {x l : Int} (hl : 0 < l) : (x.fdiv l).natAbs ≤ x.natAbs := by
  rw [Int.fdiv_eq_ediv_of_nonneg _ (by omega)]
  by_cases h : 0 ≤ x
  · have h1 := Int.ediv_le_self l h
    have h2 := Int.ediv_nonneg h (by omega : 0 ≤ l)
    omega
  · have h1 : x / l < 0 := Int.ediv_neg_of_neg_of_pos (by omega) hl
    have h2 : x ≤ x / l := by
      rw [Int.le_ediv_iff_mul_le hl]
      have := Int.mul_le_mul_of_nonpos_left (a := x) (b := l) (c := 1) (by omega) (by omega)
      omega
    omega
/-- the rows above are lowered -/
theorem above_loop {w N step K B kb eb col : Nat} {p l x y : Option D} {U : RS → Prop} (hcol : col < w) (hN : N < 1000) (hw9 : w < 1000) (hs : step < N) (hBK : B ≤ K) (hkb : K < 2 ^ kb) (hkb2 : kb ≤ 10000000) (heb2 : eb < 9000)
    (h : Stp n S s a b c R2 T2 L) (wR : Wd R2 w) (wT : Wd T2 N) (lR : R2.length = N) (lT : T2.length = N) (eR : Eb R2 K) (eT : Eb T2 K) (upB : ∀ i, i < step → ∀ j, (ent R2 i j).natAbs ≤ B ∧ (ent T2 i j).natAbs ≤ B) (zr : ∀ c ∈ L, ent R2 step c = 0) (hl : 0 < ent R2 step col) (heb : (ent R2 step col).natAbs < 2 ^ eb)
    (hU : ∀ S' R T x, Kp a b S S' → Stp n S' s a b c R T L → Wd R w → Wd T N → R.length = N → T.length = N → Eb R (B + B * K + K) → Eb T (B + B * K + K) → (∀ i, step ≤ i → R[i]? = R2[i]?) → (∀ i, i < step → ∀ c ∈ L, ent R i c = ent R2 i c) → U (.nx (rhoC s col step p l x y) S')) :
    PZ (sFor (iRng1 (eSlot 2)) (.one 5) (sDrop (eMeth Γ (CC (k + 1)) "take" (eSlot 0) (aCons (eSlot 5) (aCons (eSlot 2) (aCons (eOp oFdiv (eOp oIx (eOp oIx (eUn (oFld Γ "rows") (eSlot 0)) (eSlot 5)) (eSlot 1)) (eOp oIx (eOp oIx (eUn (oFld Γ "rows") (eSlot 0)) (eSlot 2)) (eSlot 1))) aNil))))))
      (rhoC s col step p l x y) S U := by
  have big := sizeLine_big
  rw [PZ_for, PM_rng1, PM_slot (i := 2) (d := natD step) rfl]
  refine ⟨step, rfl, rngOk_nat (by omega), ?_⟩
  refine PZ_go (fun j ρ S' => ∃ R T x, ρ = rhoC s col step p l x y ∧ Kp a b S S' ∧ Stp n S' s a b c R T L ∧ Wd R w ∧ Wd T N ∧ R.length = N ∧ T.length = N ∧ Eb R (B + B * K + K) ∧ Eb T (B + B * K + K) ∧
    (∀ i, j ≤ i → R[i]? = R2[i]? ∧ T[i]? = T2[i]?) ∧ (∀ i, i < step → ∀ c ∈ L, ent R i c = ent R2 i c)) ⟨R2, T2, x, rfl, Kp.refl, h, wR, wT, lR, lT, eR.mono (by omega), eT.mono (by omega), fun i _ => ⟨rfl, rfl⟩, fun i _ c _ => rfl⟩ ?_ ?_
  · rintro j d ρ S' hj ⟨R, T, x, rfl, kp, st, wR', wT', lR', lT', eR', eT', same, lead⟩
    obtain ⟨rfl, hlt⟩ := rng_at hj
    have hjs : j < step := by omega
    refine ⟨trivial, _, rfl, ?_⟩
    have ej : ((0 : Int) + (j : Int)) = (j : Int) := by omega
    rw [ej]
    change PZ _ (rhoC s col step p l (some (natD j)) y) S' _
    rw [PZ_drop]
    obtain ⟨sj1, sj2⟩ := same j (Nat.le_refl _)
    obtain ⟨ss1, ss2⟩ := same step (by omega)
    obtain ⟨xj, hxj⟩ : ∃ xj, R[j]? = some xj := ⟨_, List.getElem?_eq_getElem (by omega)⟩
    obtain ⟨yj, hyj⟩ : ∃ yj, T[j]? = some yj := ⟨_, List.getElem?_eq_getElem (by omega)⟩
    obtain ⟨xs, hxs⟩ : ∃ xs, R[step]? = some xs := ⟨_, List.getElem?_eq_getElem (by omega)⟩
    obtain ⟨ys, hys⟩ : ∃ ys, T[step]? = some ys := ⟨_, List.getElem?_eq_getElem (by omega)⟩
    have g1 : xj[col]? = some (ent R j col) := by
      obtain ⟨zs, q1, q2⟩ := ent_at wR' (i := j) (by omega) hcol
      rw [hxj] at q1; cases q1; exact q2
    have g2 : xs[col]? = some (ent R step col) := by
      obtain ⟨zs, q1, q2⟩ := ent_at wR' (i := step) (by omega) hcol
      rw [hxs] at q1; cases q1; exact q2
    have es : ∀ c', ent R step c' = ent R2 step c' := fun c' => ent_eq ss1
    have ets : ∀ c', ent T step c' = ent T2 step c' := fun c' => ent_eq ss2
    have ejj : ∀ c', ent R j c' = ent R2 j c' := fun c' => ent_eq sj1
    have etj : ∀ c', ent T j c' = ent T2 j c' := fun c' => ent_eq sj2
    have hq : ((ent R j col).fdiv (ent R step col)).natAbs ≤ B := by
      have := fdiv_abs (x := ent R j col) (l := ent R step col) (by rw [es]; exact hl)
      rw [ejj] at this ⊢
      have := (upB j hjs col).1
      omega
    generalize hqq : (ent R j col).fdiv (ent R step col) = q at hq
    have hxsB : ∀ z ∈ xs, z.natAbs ≤ K := fun z hz => by
      rw [ss1] at hxs
      exact eR.mem hxs z hz
    have hysB : ∀ z ∈ ys, z.natAbs ≤ K := fun z hz => by
      rw [ss2] at hys
      exact eT.mem hys z hz
    refine c_take (k := k) st (i1 := 5) (i2 := 2) (i := j) (j := step) (q := q) rfl rfl rfl ?_ hxj hxs hyj hys (fun z hz => mulOk_b hkb2 (by omega) (by have := hxsB z hz; omega)) (fun z hz => mulOk_b hkb2 (by omega) (by have := hysB z hz; omega)) (by rw [wR'.at hxj]; omega) (by rw [wT'.at hyj]; omega) fun S2 kp2 st2 => ?_
    · rw [PM_eOp, rd_ent st (i := 0) (j := 5) (l := 1) rfl rfl rfl hxj g1, rd_ent st (i := 0) (j := 2) (l := 1) rfl rfl rfl hxs g2, PM_fdiv]
      exact ⟨divOk_b heb2 (by rw [es]; omega) (by rw [es]; exact heb), by rw [hqq], rfl⟩
    · have bnd : ∀ {u v : Int}, u.natAbs ≤ B → v.natAbs ≤ K → (u - q * v).natAbs ≤ B + B * K + K := fun {u v} hu hv => by
        have h1 := abs_sub u q v
        have h2 : q.natAbs * v.natAbs ≤ B * K := Nat.mul_le_mul hq hv
        omega
      refine ⟨_, _, _, rfl, kp.trans kp2, st2, wR'.set (subR_len (wR'.at hxj) (wR'.at hxs)), wT'.set (subR_len (wT'.at hyj) (wT'.at hys)), by rw [List.length_set]; exact lR', by rw [List.length_set]; exact lT', fun i' c' => ?_, fun i' c' => ?_, fun i hi => ?_, fun i hi c' hc' => ?_⟩
      · rw [ent_take wR' hxj hxs]
        split
        · rw [ejj, es]; exact bnd (upB j hjs c').1 (eR step c')
        · exact eR' i' c'
      · rw [ent_take wT' hyj hys]
        split
        · rw [etj, ets]; exact bnd (upB j hjs c').2 (eT step c')
        · exact eT' i' c'
      · rw [List.getElem?_set_ne (by omega), List.getElem?_set_ne (by omega)]
        exact same i (by omega)
      · rw [ent_take wR' hxj hxs]
        split
        · rename_i hij
          subst hij
          rw [es, zr c' hc', lead _ hjs c' hc']; simp
        · exact lead i hi c' hc'
  · rintro ρ S' ⟨R, T, x, rfl, kp, st, wR', wT', lR', lT', eR', eT', same, lead⟩
    rw [rngL_length] at same
    exact ⟨trivial, hU S' R T x kp st wR' wT' lR' lT' eR' eT' (fun i hi => (same i (by omega)).1) lead⟩
end


section
variable {k n s a b c : Nat} {S : Store} {ρ : En} {Q : D → Store → Prop} {R T R0 T0 R1 T1 R2 T2 : List (List Int)} {L : List Nat}
/-- the bound behind a column -/
def gB (B r : Nat) : Nat := B + B * (B * (6 * B) ^ r) + B * (6 * B) ^ r
/-- what a column's clearing gives -/
def Cleared (n s a b c w N B col : Nat) (R0 T0 : List (List Int)) (L : List Nat) (d : D) (S' : Store) : Prop := ∃ R T, Stp n S' s a b c R T L ∧ ((d = .bl false ∧ R = R0 ∧ T = T0 ∧ ∀ i, L.length ≤ i → ent R0 i col = 0) ∨
  (d = .bl true ∧ L.length < N ∧ Wd R w ∧ Wd T N ∧ R.length = N ∧ T.length = N ∧ Eb R (gB B (N - L.length)) ∧ Eb T (gB B (N - L.length)) ∧ 0 < ent R L.length col ∧ (ent R L.length col).natAbs ≤ B ∧ (∀ i, L.length < i → ent R i col = 0) ∧ (∀ c' ∈ L, ∀ i, L.length ≤ i → ent R i c' = 0) ∧ (∀ i, i < L.length → ∀ c' ∈ L, ent R i c' = ent R0 i c')))
theorem m_cleared (h : Stp n S s a b c R0 T0 L) {w N B col kb eb : Nat} (hcol : col < w) (hN : N < 1000) (hw9 : w < 1000) (hB : 1 ≤ B) (wR : Wd R0 w) (wT : Wd T0 N) (lR : R0.length = N) (lT : T0.length = N) (eR : Eb R0 B) (eT : Eb T0 B) (hs : L.length ≤ N)
    (zr : ∀ c' ∈ L, ∀ i, L.length ≤ i → ent R0 i c' = 0) (hkb : B * (6 * B) ^ (N - L.length) < 2 ^ kb) (hkb2 : kb ≤ 10000000) (heb : L.length < N → B < 2 ^ eb) (heb2 : eb < 9000) :
    PM ((CC (k + 2)).fn 4 [.ref s, natD col]) S fun d S' => Kp a b S S' ∧ Cleared n s a b c w N B col R0 T0 L d S' := by
  refine PM_fn rfl rfl rfl ?_
  unfold b_Stepper_cleared
  change PZ _ [some (.ref s), some (natD col), none, none, none, none, none] S _
  rw [PZ_seq, PZ_asg, PM_eUn, rd_L h rfl, PM_lenL h.rc, PZ_one, SQ_nx, List.length_map]
  change PZ _ [some (.ref s), some (natD col), some (natD L.length), none, none, none, none] S _
  rw [PZ_seq, PZ_asg]
  refine c_places h (i1 := 1) (i2 := 2) rfl rfl rfl wR hcol (by rw [lR]; exact hN) (by rw [lR]; exact hs) ?_
  rw [PZ_one, SQ_nx]
  change PZ _ (rhoC s col L.length (some (.ref S.length)) none none none) _ _
  have lt := h.lt
  have k1 : Kp a b S (S ++ [.lst ((plc R0 col L.length).map natD)]) := Kp.ap
  have h1 := h.ap [.lst ((plc R0 col L.length).map natD)]
  have hp1 : (S ++ [Cell.lst ((plc R0 col L.length).map natD)])[S.length]? = some (.lst ((plc R0 col L.length).map natD)) := get_last
  generalize hS1 : S ++ [Cell.lst ((plc R0 col L.length).map natD)] = S1 at k1 h1 hp1 ⊢
  have hKB : B ≤ B * (6 * B) ^ (N - L.length) := Nat.le_mul_of_pos_right _ (Nat.pow_pos (by omega))
  by_cases hP : plc R0 col L.length = []
  · rw [hP] at hp1
    rw [PZ_seq]
    refine PZ_while ?_
    rw [PM_tCmp, PM_eUn, PM_slot (i := 3) (d := .ref S.length) rfl, PM_lenL hp1, PM_eC, PM_gt]
    have e : decide ((1 : Int) < (((([] : List Nat).map natD).length : Nat) : Int)) = false := by decide
    rw [e]
    simp only [Bool.false_eq_true, if_false]
    rw [SQ_nx, PZ_seq, PZ_if, PM_tNot, PM_tV, PM_slot (i := 3) (d := .ref S.length) rfl, PM_tlst hp1]
    simp only [List.map_nil, List.isEmpty_nil, Bool.not_true, Bool.not_false, if_true]
    rw [PZ_ret, PM_eC, SQ_rt]
    refine ⟨k1.drop, R0, T0, h1.drop h, .inl ⟨rfl, rfl, rfl, fun i hi => ?_⟩⟩
    by_cases hz : ent R0 i col = 0
    · exact hz
    · by_cases hl : i < R0.length
      · have : i ∈ plc R0 col L.length := plc_mem.mpr ⟨hi, hl, hz⟩
        rw [hP] at this; cases this
      · exact ent_out (by omega)
  · have hsN0 : L.length < N := by
      match hPP : plc R0 col L.length with
      | [] => exact absurd hPP hP
      | i :: r =>
        have := plc_mem.mp (show i ∈ plc R0 col L.length by rw [hPP]; simp)
        omega
    have heb := heb hsN0
    rw [PZ_seq]
    have ps0 : PS R0 T0 R0 T0 w N L.length L B := ⟨wR, wT, lR, lT, eR, eT, fun _ _ => ⟨rfl, rfl⟩, zr⟩
    refine while_col (n := n) (c := c) (R0 := R0) (T0 := T0) (K := B * (6 * B) ^ (N - L.length)) (E := B) (kb := kb) (eb := eb) hcol hN hw9 hkb hkb2 heb heb2 hs B S1 R0 T0 B S.length none none none h1 ps0 hp1 (by omega) (by omega) hP (fun i hi => ?_) (fun i _ => eR i col) (fun hlen => ?_) fun S2 R T M p l x y kp st ps hp2 hone hM hE => ?_
    · refine Nat.mul_le_mul_left _ ?_
      have := pw_le (decide (0 < ent R0 i col)) col B hB (R0.drop L.length) (fun xs hxs => ?_)
      · rw [List.length_drop, lR] at this
        exact this
      · obtain ⟨m, hm⟩ := List.getElem?_of_mem (List.mem_of_mem_drop hxs)
        have := eR m col
        rw [ent_of hm] at this
        exact this
    · match hPP : plc R0 col L.length with
      | [] => exact absurd hPP hP
      | i :: r => exact ⟨i, by simp, eR i col⟩
    · obtain ⟨i0, hi0⟩ := hone
      rw [hi0] at hp2
      have hi0' := plc_mem.mp (show i0 ∈ plc R col L.length by rw [hi0]; simp)
      have hi0N : i0 < N := by rw [← ps.lR]; exact hi0'.2.1
      have hsN : L.length < N := by omega
      have hoth : ∀ i, L.length ≤ i → i ≠ i0 → ent R i col = 0 := fun i h1 h2 => by
        by_cases hz : ent R i col = 0
        · exact hz
        · by_cases hl : i < R.length
          · have : i ∈ plc R col L.length := plc_mem.mpr ⟨h1, hl, hz⟩
            rw [hi0] at this
            exact absurd (List.mem_singleton.mp this) h2
          · exact ent_out (by omega)
      rw [SQ_nx, PZ_seq, PZ_if, PM_tNot, PM_tV, PM_slot (i := 3) (d := .ref p) rfl, PM_tlst hp2]
      simp only [List.map_cons, List.isEmpty_cons, Bool.not_true, Bool.not_false, Bool.false_eq_true, if_false, PZ_nx, SQ_nx]
      rw [PZ_seq, PZ_drop, PM_meth, PM_slot (i := 0) (d := .ref s) rfl, PM_clsR st.ob rfl]
      refine ⟨(7, 3), rfl, ?_⟩
      rw [PM_aCons, PM_slot (i := 2) (d := natD L.length) rfl, PM_aCons, PM_eOp, PM_slot (i := 3) (d := .ref p) rfl, PM_eC, PM_ixL hp2]
      refine ⟨natD i0, rfl, ?_⟩
      rw [PM_aNil]
      refine ⟨rfl, ?_⟩
      obtain ⟨xi, yi, hxi, hyi⟩ := ps.at hsN
      obtain ⟨xj, yj, hxj, hyj⟩ := ps.at hi0N
      refine (m_exch (k := k) st hxi hxj hyi hyj).imp ?_
      rintro _ S3 ⟨rfl, kp3, st3⟩
      have ps3 := ps.exch hxi hxj hyi hyj (Nat.le_refl _) hi0'.1
      have ecol : ∀ i, ent ((R.set L.length xj).set i0 xi) i col = if i = i0 then ent R L.length col else if i = L.length then ent R i0 col else ent R i col := fun i => ent_exch hxi hxj
      have elead : ent ((R.set L.length xj).set i0 xi) L.length col = ent R i0 col := by
        rw [ecol]
        by_cases z : L.length = i0
        · rw [if_pos z, z]
        · rw [if_neg z, if_pos rfl]
      have ebel : ∀ i, L.length < i → ent ((R.set L.length xj).set i0 xi) i col = 0 := fun i hi => by
        rw [ecol]
        by_cases z : i = i0
        · rw [if_pos z]
          exact hoth _ (Nat.le_refl _) (by omega)
        · rw [if_neg z, if_neg (by omega)]
          exact hoth i (by omega) z
      have kk : Kp a b S S3 := k1.trans (kp.trans kp3)
      have hi0B : (ent R i0 col).natAbs ≤ B := hE i0 hi0'.1
      have fin : ∀ S4 R4 T4, Kp a b S3 S4 → Stp n S4 s a b c R4 T4 L → PS R0 T0 R4 T4 w N L.length L M → 0 < ent R4 L.length col → (ent R4 L.length col).natAbs ≤ B → (∀ i, L.length < i → ent R4 i col = 0) →
          PZ (sSeq (sFor (iRng1 (eSlot 2)) (.one 5) (sDrop (eMeth Γ (CC (k + 1)) "take" (eSlot 0) (aCons (eSlot 5) (aCons (eSlot 2) (aCons (eOp oFdiv (eOp oIx (eOp oIx (eUn (oFld Γ "rows") (eSlot 0)) (eSlot 5)) (eSlot 1)) (eOp oIx (eOp oIx (eUn (oFld Γ "rows") (eSlot 0)) (eSlot 2)) (eSlot 1))) aNil))))))
            (sRet (eC (.bl true)))) (rhoC s col L.length (some (.ref p)) l x y) S4 fun r => match r with
              | .rt d S' => Kp a b S (dropR S d S') ∧ Cleared n s a b c w N B col R0 T0 L d (dropR S d S')
              | .nx _ S' => Kp a b S (dropR S .non S') ∧ Cleared n s a b c w N B col R0 T0 L .non (dropR S .non S')
              | _ => False := by
        intro S4 R4 T4 kp4 st4 ps4 hlp hlB hbel
        rw [PZ_seq]
        refine above_loop (n := n) (c := c) (K := B * (6 * B) ^ (N - L.length)) (B := B) (kb := kb) (eb := eb) hcol hN hw9 hsN hKB hkb hkb2 heb2 st4 ps4.wR ps4.wT ps4.lR ps4.lT (ps4.eR.mono hM) (ps4.eT.mono hM) (fun i hi j => ?_) (fun c' hc' => ps4.zr c' hc' _ (Nat.le_refl _)) hlp (by omega) fun S5 R5 T5 x5 kp5 st5 w1 w2 l1 l2 e1 e2 same lead => ?_
        · obtain ⟨u1, u2⟩ := ps4.up i hi
          rw [ent_eq u1, ent_eq u2]
          exact ⟨eR i j, eT i j⟩
        · rw [SQ_nx, PZ_ret, PM_eC]
          have k5 : Kp a b S S5 := kk.trans (kp4.trans kp5)
          have es : ∀ i c', L.length ≤ i → ent R5 i c' = ent R4 i c' := fun i c' hi => ent_eq (same i hi)
          refine ⟨k5.drop, R5, T5, st5.drop h, .inr ⟨rfl, hsN, w1, w2, l1, l2, e1, e2, by rw [es _ _ (Nat.le_refl _)]; exact hlp, by rw [es _ _ (Nat.le_refl _)]; exact hlB, fun i hi => by rw [es _ _ (by omega)]; exact hbel i hi, fun c' hc' i hi => by rw [es _ _ hi]; exact ps4.zr c' hc' i hi, fun i hi c' hc' => ?_⟩⟩
          rw [lead i hi c' hc', ent_eq (ps4.up i hi).1]
      have g3 : ((R.set L.length xj).set i0 xi)[L.length]? = some (((R.set L.length xj).set i0 xi)[L.length]'(by rw [ps3.lR]; exact hsN)) := List.getElem?_eq_getElem _
      obtain ⟨zs, q1, q2⟩ := ent_at ps3.wR (i := L.length) (by rw [ps3.lR]; exact hsN) hcol
      rw [SQ_nx, PZ_seq, PZ_if, PM_tCmp, rd_ent st3 (i := 0) (j := 2) (l := 1) rfl rfl rfl q1 q2, PM_eC, PM_lt]
      by_cases hneg : ent ((R.set L.length xj).set i0 xi) L.length col < 0
      · have e : decide (ent ((R.set L.length xj).set i0 xi) L.length col < 0) = true := decide_eq_true hneg
        rw [e]
        simp only [if_true]
        refine neg_st (n := n) (c := c) (R0 := R0) (T0 := T0) st3 ps3 hsN hN hw9 fun S4 R4 T4 xs ys r1 r2 r3 r4 kp4 st4 => ?_
        rw [SQ_nx]
        subst r3 r4
        refine fin S4 _ _ kp4 st4 (ps3.neg r1 r2 (Nat.le_refl _)) ?_ ?_ fun i hi => ?_
        · rw [ent_neg r1, if_pos rfl]; omega
        · rw [ent_neg r1, if_pos rfl, Int.natAbs_neg, elead]; exact hi0B
        · rw [ent_neg r1, if_neg (by omega)]; exact ebel i hi
      · have e : decide (ent ((R.set L.length xj).set i0 xi) L.length col < 0) = false := decide_eq_false hneg
        rw [e]
        simp only [Bool.false_eq_true, if_false, PZ_nx, SQ_nx]
        refine fin S3 _ _ Kp.refl st3 ps3 ?_ ?_ ebel
        · have := hi0'.2.2
          rw [elead] at hneg ⊢
          omega
        · rw [elead]; exact hi0B
end


section
variable {k n s a b c : Nat} {S : Store} {ρ : En} {Q : D → Store → Prop} {R T R0 T0 : List (List Int)} {L : List Nat}
theorem Tab.snoc {ds : List D} {r : Nat} {xs : List Int} (h : Tab S ds R) (e : S[r]? = some (.lst (xs.map .int))) : Tab S (ds ++ [.ref r]) (R ++ [xs]) := by
  refine ⟨by simp [h.1], fun i d hi => ?_⟩
  by_cases hl : i < ds.length
  · rw [List.getElem?_append_left hl] at hi
    obtain ⟨r', ys, h1, h2, h3⟩ := h.2 i d hi
    exact ⟨r', ys, h1, by rw [List.getElem?_append_left (by rw [← h.1]; exact hl)]; exact h2, h3⟩
  · rw [List.getElem?_append_right (by omega)] at hi
    have hi0 : i - ds.length = 0 := by
      have := (List.getElem?_eq_some_iff.mp hi).1
      simp at this; omega
    rw [hi0] at hi
    simp at hi
    subst hi
    refine ⟨r, xs, rfl, ?_, e⟩
    rw [List.getElem?_append_right (by rw [← h.1]; omega), ← h.1, hi0]; rfl
/-- a comprehension that makes rows -/
theorem PM_rowsc {own : List Nat} {it : Iv} {tg : Tg} {e : Ev} {items : List D} {src : Src} (hit : it ρ S = some (.ok ⟨items, src⟩ S)) (hlen : items.length = R.length) (hsz : R.length < sizeLine) (hsrc : ∀ X, src.ok (S ++ X))
    (he : ∀ (j : Nat) (d : D) (xs : List Int), items[j]? = some d → R[j]? = some xs → ∃ ρ1, tg.asg d (own.foldr (fun i ρ => ρ.set i none) ρ) = some ρ1 ∧ ∀ Y, PM (e ρ1) (S ++ Y) fun y S3 => y = .ref (S ++ Y).length ∧ S3 = (S ++ Y) ++ [.lst (xs.map .int)])
    (hQ : ∀ Y ds, Tab (S ++ .lst ds :: Y) ds R → (∀ q, .ref q ∈ ds → S.length < q ∧ q < (S ++ .lst ds :: Y).length) → Q (.ref S.length) (S ++ .lst ds :: Y)) : PM (eComp own it tg tTrue e ρ) S Q := by
  refine PM_compI ?_
  rw [PM_of hit]
  refine ⟨fun j acc S' => ∃ Y, S' = S ++ .lst acc :: Y ∧ acc.length = j ∧ Tab S' acc (R.take j) ∧ ∀ q, .ref q ∈ acc → S.length < q ∧ q < S'.length, ⟨[], rfl, rfl, ⟨by simp, fun i d h => by simp at h⟩, fun q h => by cases h⟩, ?_, ?_⟩
  · rintro j d acc S' hj ⟨Y, rfl, hl, ht, hb⟩
    have hjl : j < R.length := by rw [← hlen]; exact (List.getElem?_eq_some_iff.mp hj).1
    obtain ⟨ρ1, h1, h2⟩ := he j d _ hj (List.getElem?_eq_getElem hjl)
    refine ⟨hsrc _, ρ1, h1, tt_iff.mpr ⟨fun _ => ?_, fun z => by cases z⟩⟩
    refine (h2 (.lst acc :: Y)).imp ?_
    rintro y S3 ⟨rfl, rfl⟩
    have hr : ((S ++ .lst acc :: Y) ++ [Cell.lst ((R[j]).map .int)])[S.length]? = some (.lst acc) := by simp
    have e2 : ((S ++ .lst acc :: Y) ++ [Cell.lst ((R[j]).map .int)]).set S.length (.lst (acc ++ [.ref (S ++ .lst acc :: Y).length])) = S ++ .lst (acc ++ [.ref (S ++ .lst acc :: Y).length]) :: (Y ++ [.lst ((R[j]).map .int)]) := by simp
    refine ⟨hr, by omega, Y ++ [.lst ((R[j]).map .int)], e2, by simp [hl], ?_, fun q hq => ?_⟩
    · rw [List.take_succ, List.getElem?_eq_getElem hjl]
      refine Tab.snoc ?_ ?_
      · refine ht.keep fun q x hq hx => ?_
        exact get_set (get_ap hx) (by have := (hb q hq).1; omega)
      · refine get_set get_last ?_
        simp
    · rw [List.length_set, List.length_append]
      rcases List.mem_append.mp hq with z | z
      · have := hb q z; simp only [List.length_singleton]; omega
      · cases List.mem_singleton.mp z
        simp only [List.length_append, List.length_cons, List.length_nil]
        omega
  · rintro acc S' ⟨Y, rfl, hl, ht, hb⟩
    rw [hlen, List.take_length] at ht
    exact ⟨hsrc _, hQ Y acc ht hb⟩
/-- rows told: a tuple or a list of tuples or lists -/
def RSeq (S : Store) (d : D) (R : List (List Int)) : Prop := ∃ ds, (d = .tup ds ∨ ∃ r, d = .ref r ∧ S[r]? = some (.lst ds)) ∧ ds.length = R.length ∧ ∀ (i : Nat) x xs, ds[i]? = some x → R[i]? = some xs → ISeq S x xs
theorem RSeq.ap {d : D} (h : RSeq S d R) (X : Store) : RSeq (S ++ X) d R := by
  obtain ⟨ds, h1, h2, h3⟩ := h
  refine ⟨ds, ?_, h2, fun i x xs e1 e2 => (h3 i x xs e1 e2).ap X⟩
  rcases h1 with h | ⟨r, e, h⟩
  · exact .inl h
  · exact .inr ⟨r, e, get_ap h⟩
theorem RSeq.seq {d : D} (h : RSeq S d R) : ∃ ds src, seqM d S = some (.ok (ds, src) S) ∧ (∀ X, src.ok (S ++ X)) ∧ ds.length = R.length ∧ ∀ (i : Nat) x xs, ds[i]? = some x → R[i]? = some xs → ISeq S x xs := by
  obtain ⟨ds, h1, h2, h3⟩ := h
  rcases h1 with rfl | ⟨r, rfl, h⟩
  · exact ⟨ds, .non, rfl, fun _ => trivial, h2, h3⟩
  · exact ⟨ds, .lst r ds, fn_eq ((PM_seqL h).mpr ⟨rfl, rfl⟩), fun X => get_ap h, h2, h3⟩
theorem RSeq.len {d : D} (h : RSeq S d R) : PM (fLen d) S Q ↔ Q (.int R.length) S := by
  obtain ⟨ds, h1, h2, h3⟩ := h
  rcases h1 with rfl | ⟨r, rfl, h⟩
  · rw [PM_lenT, h2]
  · rw [PM_lenL h, h2]
theorem ISeq.lst {d : D} {xs : List Int} (h : ISeq S d xs) : PM (fLst d) S Q ↔ Q (.ref S.length) (S ++ [.lst (xs.map .int)]) := by
  rcases h with ⟨r, rfl, h⟩ | rfl
  · exact PM_lstL h
  · exact PM_lstT
def still (N : Nat) : List (List Int) := (List.range N).map fun i : Nat => (List.range N).map fun j : Nat => if (i : Int) = (j : Int) then 1 else 0
theorem still_len (N : Nat) : (still N).length = N := by simp [still]
theorem still_wd (N : Nat) : Wd (still N) N := fun xs hx => by
  obtain ⟨i, _, rfl⟩ := List.mem_map.mp hx
  simp
theorem still_eb (N : Nat) : Eb (still N) 1 := Eb.of_mem fun xs hx x hxx => by
  obtain ⟨i, _, rfl⟩ := List.mem_map.mp hx
  obtain ⟨j, _, rfl⟩ := List.mem_map.mp hxx
  split <;> simp
theorem m_still {N : Nat} (hN : N < 1000) (hQ : ∀ Y ds, Tab (S ++ .lst ds :: Y) ds (still N) → (∀ q, .ref q ∈ ds → S.length < q ∧ q < (S ++ .lst ds :: Y).length) → Q (.ref S.length) (S ++ .lst ds :: Y)) : PM ((CC (k + 1)).fn 34 [.int (N : Nat)]) S Q := by
  refine PM_fn rfl rfl rfl ?_
  unfold b_still_rows
  change PZ _ [some (.int (N : Nat)), none, none] S _
  have big := sizeLine_big
  rw [PZ_ret]
  have hr : (iRng1 (eSlot 0) : Iv) [some (.int (N : Nat)), none, none] S = some (.ok ⟨rngL 0 N, .non⟩ S) := fn_eq (by rw [PM_rng1, PM_slot (i := 0) (d := .int (N : Nat)) rfl]; exact ⟨N, rfl, rngOk_nat (by omega), rfl, rfl⟩)
  refine PM_rowsc (R := still N) hr (by rw [rngL_length, still_len]; omega) (by rw [still_len]; omega) (fun _ => trivial) (fun j d xs hj hx => ?_) (fun Y ds ht hb => ?_)
  · obtain ⟨rfl, hlt⟩ := rng_at hj
    have hxs : xs = (List.range N).map fun p : Nat => if (j : Int) = (p : Int) then 1 else 0 := by
      unfold still at hx
      rw [List.getElem?_map] at hx
      obtain ⟨i, h1, rfl⟩ := Option.map_eq_some_iff.mp hx
      rw [List.getElem?_range (by omega)] at h1
      cases h1; rfl
    have ej : ((0 : Int) + (j : Int)) = (j : Int) := by omega
    refine ⟨_, rfl, fun Y => ?_⟩
    rw [ej]
    change PM (eComp [2] (iRng1 (eSlot 0)) (.one 2) tTrue _ [some (.int (N : Nat)), some (.int (j : Nat)), none]) _ _
    have e : (rngL 0 (N : Int)).filterMap (fun d => match d with
        | .int z => some (D.int (if (j : Int) = z then 1 else 0))
        | _ => none) = xs.map .int := by
      rw [hxs]
      unfold rngL
      have : ((N : Int) - 0).toNat = N := by omega
      rw [this, List.filterMap_map, List.map_map]
      generalize List.range N = l
      induction l with
      | nil => rfl
      | cons x xs ih =>
        rw [List.filterMap_cons, List.map_cons, ih]
        simp only [Function.comp, Int.zero_add]
    refine PM_comp ?_
    rw [PM_rng1, PM_slot (i := 0) (d := .int (N : Nat)) rfl]
    refine ⟨N, rfl, rngOk_nat (by omega), by show (rngL _ _).length < _; rw [rngL_length]; omega, fun d => match d with
      | .int z => some (.int (if (j : Int) = z then 1 else 0))
      | _ => none, fun _ => trivial, fun d hd => ?_, ?_⟩
    · obtain ⟨p, hp⟩ := List.getElem?_of_mem hd
      obtain ⟨rfl, _⟩ := rng_at hp
      refine ⟨_, rfl, fun acc => tt_iff.mpr ⟨rfl, ?_⟩⟩
      simp only [if_true]
      rw [PM_eIf, PM_tCmp, PM_slot (i := 1) (d := .int (j : Nat)) rfl, PM_slot (i := 2) (d := .int ((0 : Int) + (p : Nat))) rfl, own_int, PM_eqi]
      by_cases hz : (j : Int) = 0 + (p : Int)
      · rw [decide_eq_true hz, if_pos rfl, PM_eC]
        exact ⟨rfl, by rw [if_pos hz]⟩
      · rw [decide_eq_false hz, if_neg (by simp), PM_eC]
        exact ⟨rfl, by rw [if_neg hz]⟩
    · refine ⟨rfl, ?_⟩
      dsimp only
      rw [e]
  · have nd : dropR S (.ref S.length) (S ++ .lst ds :: Y) = S ++ .lst ds :: Y := by
      unfold dropR
      rw [if_neg (by simp), if_neg]
      rintro ⟨_, hb⟩
      exact absurd (show S.length < S.length from hb) (Nat.lt_irrefl _)
    show Q _ (dropR S (.ref S.length) (S ++ .lst ds :: Y))
    rw [nd]
    exact hQ Y ds ht hb
theorem dropR_not {S' : Store} {d : D} {r : Nat} {x : Cell} (hr : r < S.length) (e : S'[r]? = some x) (hb : ¬ belowC S.length x) (hne : S[r]? ≠ some x) : dropR S d S' = S' := by
  unfold dropR
  split
  · rfl
  · rw [if_neg]
    rintro ⟨hm, _⟩
    have e2 : (S'.take S.length)[r]? = some x := by rw [List.getElem?_take, if_pos hr]; exact e
    rcases hm with z | z
    · rw [z] at e2
      exact hne e2
    · exact hb (z _ (List.mem_of_getElem? e2))
/-- a new instance that stays in the store -/
theorem PM_newM {k c i : Nat} {cd : Cd} {ds : List D} (hc : Γ.cls[c]? = some cd) (hi : cd.init = some i) (hz : cd.frozen = false)
    (h : PM ((callsAt Γ bs k).fn i (.ref S.length :: ds)) (S ++ [.obj c []]) fun d S' => d = .non ∧ (∃ c' fs, S'[S.length]? = some (.obj c' fs)) ∧ Q (.ref S.length) S') : PM ((callsAt Γ bs (k + 1)).new c ds) S Q := by
  obtain ⟨d, S', e, rfl, ⟨c', fs, e1⟩, q⟩ := h
  refine ⟨.ref S.length, S', ?_, q⟩
  show runMk Γ (callsAt Γ bs k).fn c ds S = _
  unfold runMk
  rw [hc]
  simp only [hi, e, e1, hz, Bool.false_eq_true, if_false]
end


section
variable {k n s a b c : Nat} {S : Store} {ρ : En} {Q : D → Store → Prop} {R T R0 T0 : List (List Int)} {L : List Nat}
abbrev stpF1 (a : Nat) : List (Str × D) := [("rows", .ref a)]
abbrev stpF2 (a b : Nat) : List (Str × D) := [("rows", .ref a), ("there", .ref b)]
def bB (N B0 : Nat) : Nat → Nat
  | 0 => B0
  | s + 1 => gB (bB N B0 s) (N - s)
theorem gB_le (B r : Nat) : B ≤ gB B r := by unfold gB; omega
theorem bB_pos {N B0 : Nat} (h : 1 ≤ B0) : ∀ s, 1 ≤ bB N B0 s
  | 0 => h
  | s + 1 => Nat.le_trans (bB_pos h s) (gB_le _ _)
/-- a Stepper that is ready: its rows are in step form as far as is needed -/
structure Fin (n : Nat) (S : Store) (s a b c w N B0 : Nat) (R T : List (List Int)) (L : List Nat) : Prop where
  st : Stp n S s a b c R T L
  wR : Wd R w
  wT : Wd T N
  lR : R.length = N
  lT : T.length = N
  eR : Eb R (bB N B0 L.length)
  eT : Eb T (bB N B0 L.length)
  ld : ∀ (j col : Nat), L[j]? = some col → 0 < ent R j col ∧ (ent R j col).natAbs ≤ bB N B0 j ∧ col < w
  zr : ∀ (j col : Nat), L[j]? = some col → ∀ i, j < i → ent R i col = 0
  le : L.length ≤ N
theorem Stp.putL (h : Stp n S s a b c R T L) (L' : List Nat) : Stp n (S.set c (.lst (L'.map fun n => .int (n : Nat)))) s a b c R T L' := by
  obtain ⟨ds, h1, h2, h3⟩ := h.ra
  obtain ⟨es, g1, g2, g3⟩ := h.rb
  obtain ⟨sa, sb, sc⟩ := h.sa
  exact ⟨get_set h.ob sc, ⟨ds, get_set h1 h.ac, h2.keep fun q x hq e => get_set e (h3 q hq).1, fun q hq => ⟨(h3 q hq).1, by rw [List.length_set]; exact (h3 q hq).2⟩⟩,
    ⟨es, get_set g1 h.bc, g2.keep fun q x hq e => get_set e (g3 q hq).1, fun q hq => ⟨(g3 q hq).1, by rw [List.length_set]; exact (g3 q hq).2⟩⟩, set_self h.rc, h.ab, h.ac, h.bc, h.lo, h.len⟩
/-- what lies below n stays, whatever a and b are -/
def Lo (n : Nat) (S S' : Store) : Prop := ∀ r x, r < n → S[r]? = some x → S'[r]? = some x
theorem Lo.trans {S1 S2 : Store} (h : Lo n S S1) (h2 : Lo n S1 S2) : Lo n S S2 := fun r x hr e => h2 r x hr (h r x hr e)
theorem m_new {w N B0 kb eb : Nat} {d : D} (hd : RSeq S d R0) (hN : N < 1000) (hw9 : w < 1000) (hB : 1 ≤ B0) (wR : Wd R0 w) (lR : R0.length = N) (eR : Eb R0 B0) (hkb : ∀ s, s ≤ N → s < w → bB N B0 s * (6 * bB N B0 s) ^ (N - s) < 2 ^ kb) (hkb2 : kb ≤ 10000000) (heb : ∀ s, s < N → s < w → bB N B0 s < 2 ^ eb) (heb2 : eb < 9000) :
    PM ((CC (k + 4)).new 1 [d, .int (w : Nat)]) S fun v S' => v = .ref S.length ∧ Lo S.length S S' ∧ ∃ a b c R T L, Fin S.length S' S.length a b c w N B0 R T L ∧ L.length ≤ w := by
  refine PM_newM (i := 3) rfl rfl rfl ?_
  refine PM_fn rfl rfl rfl ?_
  unfold b_Stepper_init
  change PZ _ [some (.ref S.length), some d, some (.int (w : Nat)), none, none] _ _
  have big := sizeLine_big
  have hd0 : RSeq (S ++ [.obj 1 []]) d R0 := hd.ap _
  rw [PZ_seq, PZ_asg]
  obtain ⟨ds, src, e1, ok1, l1, it1⟩ := hd0.seq
  have hit : (iSeq (eSlot 1) : Iv) [some (.ref S.length), some d, some (.int (w : Nat)), none, none] (S ++ [.obj 1 []]) = some (.ok ⟨ds, src⟩ (S ++ [.obj 1 []])) := fn_eq (by
    rw [PM_iSeq, PM_slot (i := 1) (d := d) rfl, PM_of e1]; exact ⟨rfl, rfl⟩)
  refine PM_rowsc (R := R0) hit l1 (by omega) ok1 (fun j x xs hj hx => ⟨_, rfl, fun Y => ?_⟩) fun Y es ht hb => ?_
  · rw [PM_eUn, PM_slot (i := 4) (d := x) rfl, (((it1 j x xs hj hx).ap Y).lst)]
    exact ⟨rfl, rfl⟩
  have hlen0 : (S ++ [Cell.obj 1 []]).length = S.length + 1 := by simp
  rw [hlen0] at hb ⊢
  have o1 : ((S ++ [Cell.obj 1 []]) ++ Cell.lst es :: Y)[S.length]? = some (.obj 1 []) := by simp
  have a1 : ((S ++ [Cell.obj 1 []]) ++ Cell.lst es :: Y)[S.length + 1]? = some (.lst es) := by simp
  have lo1 : Lo S.length S ((S ++ [Cell.obj 1 []]) ++ Cell.lst es :: Y) := fun r x hr e => get_ap (get_ap e)
  have hS1l : S.length + 2 ≤ ((S ++ [Cell.obj 1 []]) ++ Cell.lst es :: Y).length := by simp only [List.length_append, List.length_cons, List.length_nil]; omega
  generalize hS1 : (S ++ [Cell.obj 1 []]) ++ Cell.lst es :: Y = S1 at ht hb o1 a1 lo1 hS1l ⊢
  rw [PZ_fld, PM_slot (i := 0) (d := .ref S.length) rfl, PM_putF o1 (by rw [stF]; decide) (by decide), SQ_nx]
  have f1 : putFD "rows" (D.ref (S.length + 1)) [] = (stpF1 (S.length + 1)) := rfl
  rw [f1]
  have o2 : (S1.set S.length (.obj 1 (stpF1 (S.length + 1))))[S.length]? = some (.obj 1 (stpF1 (S.length + 1))) := set_self o1
  have a2 : (S1.set S.length (.obj 1 (stpF1 (S.length + 1))))[S.length + 1]? = some (.lst es) := get_set a1 (by omega)
  have ht2 : Tab (S1.set S.length (.obj 1 (stpF1 (S.length + 1)))) es R0 := ht.keep fun q x hq e => get_set e (by have := (hb q hq).1; omega)
  have lo2 : Lo S.length S (S1.set S.length (.obj 1 (stpF1 (S.length + 1)))) := fun r x hr e => get_set (lo1 r x hr e) (by omega)
  have hl2 : (S1.set S.length (.obj 1 (stpF1 (S.length + 1)))).length = S1.length := by simp
  generalize hS2 : S1.set S.length (.obj 1 (stpF1 (S.length + 1))) = S2 at o2 a2 ht2 lo2 hl2 ⊢
  have hd2 : RSeq S2 d R0 := by
    obtain ⟨xs, h1, h2, h3⟩ := hd
    refine ⟨xs, ?_, h2, fun i x zs e1 e2 => ?_⟩
    · rcases h1 with h | ⟨r, e, h⟩
      · exact .inl h
      · exact .inr ⟨r, e, lo2 r _ (get_lt h) h⟩
    · rcases h3 i x zs e1 e2 with ⟨r, e, h⟩ | h
      · exact .inl ⟨r, e, lo2 r _ (get_lt h) h⟩
      · exact .inr h
  rw [PZ_seq, PZ_asg, PM_eCall, PM_aCons, PM_eUn, PM_slot (i := 1) (d := d) rfl, hd2.len, PM_aNil]
  refine ⟨rfl, ?_⟩
  rw [lR]
  refine m_still (k := k + 1) hN fun Y2 ts ht3 hb3 => ?_
  have o3 := get_ap (X := Cell.lst ts :: Y2) o2
  have a3 := get_ap (X := Cell.lst ts :: Y2) a2
  have b3 : (S2 ++ Cell.lst ts :: Y2)[S2.length]? = some (.lst ts) := by simp
  have hta3 : Tab (S2 ++ Cell.lst ts :: Y2) es R0 := ht2.keep fun q x _ e => get_ap e
  have lo3 : Lo S.length S (S2 ++ Cell.lst ts :: Y2) := fun r x hr e => get_ap (lo2 r x hr e)
  have hl3 : S2.length < (S2 ++ Cell.lst ts :: Y2).length := by simp
  generalize hS3 : S2 ++ Cell.lst ts :: Y2 = S3 at ht3 hb3 o3 a3 b3 hta3 lo3 hl3 ⊢
  rw [PZ_fld, PM_slot (i := 0) (d := .ref S.length) rfl, PM_putF o3 (by rw [stF]; decide) (by simp), SQ_nx]
  have f2 : putFD "there" (D.ref S2.length) (stpF1 (S.length + 1)) = (stpF2 (S.length + 1) S2.length) := rfl
  rw [f2]
  have o4 : (S3.set S.length (.obj 1 (stpF2 (S.length + 1) S2.length)))[S.length]? = some (.obj 1 (stpF2 (S.length + 1) S2.length)) := set_self o3
  have a4 : (S3.set S.length (.obj 1 (stpF2 (S.length + 1) S2.length)))[S.length + 1]? = some (.lst es) := get_set a3 (by omega)
  have b4 : (S3.set S.length (.obj 1 (stpF2 (S.length + 1) S2.length)))[S2.length]? = some (.lst ts) := get_set b3 (by omega)
  have ta4 : Tab (S3.set S.length (.obj 1 (stpF2 (S.length + 1) S2.length))) es R0 := hta3.keep fun q x hq e => get_set e (by have := (hb q hq).1; omega)
  have tb4 : Tab (S3.set S.length (.obj 1 (stpF2 (S.length + 1) S2.length))) ts (still N) := ht3.keep fun q x hq e => get_set e (by have := (hb3 q hq).1; omega)
  have lo4 : Lo S.length S (S3.set S.length (.obj 1 (stpF2 (S.length + 1) S2.length))) := fun r x hr e => get_set (lo3 r x hr e) (by omega)
  have hl4 : (S3.set S.length (.obj 1 (stpF2 (S.length + 1) S2.length))).length = S3.length := by simp
  generalize hS4 : S3.set S.length (.obj 1 (stpF2 (S.length + 1) S2.length)) = S4 at o4 a4 b4 ta4 tb4 lo4 hl4 ⊢
  rw [PZ_seq, PZ_asg, PM_eLst, PM_aNil]
  refine ⟨by simp, ?_⟩
  have o5 := get_ap (X := [Cell.lst []]) o4
  rw [PZ_fld, PM_slot (i := 0) (d := .ref S.length) rfl, PM_putF o5 (by rw [stF]; decide) (by simp), SQ_nx]
  have f3 : putFD "leading" (D.ref S4.length) (stpF2 (S.length + 1) S2.length) = stpF (S.length + 1) S2.length S4.length := rfl
  rw [f3]
  have st5 : Stp S.length ((S4 ++ [Cell.lst []]).set S.length (.obj 1 (stpF (S.length + 1) S2.length S4.length))) S.length (S.length + 1) S2.length S4.length R0 (still N) [] := by
    refine ⟨set_self o5, ⟨es, get_set (get_ap a4) (by omega), ta4.keep fun q x hq e => get_set (get_ap e) (by have := (hb q hq).1; omega), fun q hq => ?_⟩, ⟨ts, get_set (get_ap b4) (by omega), tb4.keep fun q x hq e => get_set (get_ap e) (by have := (hb3 q hq).1; omega), fun q hq => ?_⟩, get_set get_last (by omega), by omega, by omega, by omega, by omega, by rw [lR, still_len]⟩
    · have := hb q hq
      rw [List.length_set, List.length_append]
      exact ⟨by omega, by simp; omega⟩
    · have := hb3 q hq
      rw [List.length_set, List.length_append]
      exact ⟨by omega, by simp; omega⟩
  have lo5 : Lo S.length S ((S4 ++ [Cell.lst []]).set S.length (.obj 1 (stpF (S.length + 1) S2.length S4.length))) := fun r x hr e => get_set (get_ap (lo4 r x hr e)) (by omega)
  generalize hS5 : (S4 ++ [Cell.lst []]).set S.length (.obj 1 (stpF (S.length + 1) S2.length S4.length)) = S5 at st5 lo5 ⊢
  have fin5 : Fin S.length S5 S.length (S.length + 1) S2.length S4.length w N B0 R0 (still N) [] := ⟨st5, wR, still_wd N, lR, still_len N, eR, (still_eb N).mono hB, fun j col e => by simp at e, fun j col e => by simp at e, by simp⟩
  rw [PZ_for, PM_rng1, PM_slot (i := 2) (d := .int (w : Nat)) rfl]
  refine ⟨w, rfl, rngOk_nat (by omega), ?_⟩
  refine PZ_go (fun j ρ S' => ∃ x R T L, ρ = [some (.ref S.length), some d, some (.int (w : Nat)), x, none] ∧ Lo S.length S S' ∧ Fin S.length S' S.length (S.length + 1) S2.length S4.length w N B0 R T L ∧ L.length ≤ j) ⟨_, R0, _, [], rfl, lo5, fin5, Nat.le_refl _⟩ ?_ ?_
  · rintro j x ρ S' hj ⟨y, R, T, L, rfl, lo, fin, hL⟩
    obtain ⟨rfl, hlt⟩ := rng_at hj
    have ej : ((0 : Int) + (j : Int)) = (j : Int) := by omega
    rw [ej]
    refine ⟨trivial, _, rfl, ?_⟩
    change PZ _ [some (.ref S.length), some d, some (.int (w : Nat)), some (natD j), none] S' _
    rw [PZ_if, PM_tV, PM_meth, PM_slot (i := 0) (d := .ref S.length) rfl, PM_clsR fin.st.ob rfl]
    refine ⟨(4, 2), rfl, ?_⟩
    rw [PM_aCons, PM_slot (i := 3) (d := natD j) rfl, PM_aNil]
    refine ⟨rfl, ?_⟩
    refine (m_cleared (k := k) (B := bB N B0 L.length) (kb := kb) (eb := eb) fin.st (w := w) (N := N) (col := j) (by omega) hN hw9 (bB_pos hB _) fin.wR fin.wT fin.lR fin.lT fin.eR fin.eT fin.le (fun c' hc' i hi => ?_) (hkb _ fin.le (by omega)) hkb2 (fun hh => heb _ hh (by omega)) heb2).imp ?_
    · obtain ⟨m, hm⟩ := List.getElem?_of_mem hc'
      exact fin.zr m c' hm i (by have := (List.getElem?_eq_some_iff.mp hm).1; omega)
    · rintro v S6 ⟨kp, R', T', st6, hh⟩
      have lo6 : Lo S.length S S6 := fun r x hr e => kp.get (lo r x hr e) (by omega) (by omega)
      rcases hh with ⟨rfl, rfl, rfl, hz⟩ | ⟨rfl, h1, h2, h3, h4, h5, h6, h7, h8, h9, h10, h11, h12⟩
      · rw [PM_tbl]
        simp only [Bool.false_eq_true, if_false, PZ_nx, TQ_nx]
        exact ⟨_, R', T', L, rfl, lo6, ⟨st6, fin.wR, fin.wT, fin.lR, fin.lT, fin.eR, fin.eT, fin.ld, fin.zr, fin.le⟩, by omega⟩
      · rw [PM_tbl]
        simp only [if_true]
        rw [PZ_drop, PM_eM, rd_L st6 (i := 0) rfl]
        refine ⟨kindL st6.rc, ?_⟩
        rw [PM_aCons, PM_slot (i := 3) (d := natD j) rfl, PM_aNil, PM_append st6.rc (by rw [List.length_map]; omega), TQ_nx]
        have el : (L.map fun n => D.int (n : Nat)) ++ [natD j] = (L ++ [j]).map fun n => D.int (n : Nat) := by rw [List.map_append]; rfl
        rw [el]
        refine ⟨_, R', T', L ++ [j], rfl, fun r x hr e => get_set (lo6 r x hr e) (by have := st6.lo; omega), ⟨st6.putL _, h2, h3, h4, h5, ?_, ?_, fun m col hm => ?_, fun m col hm i hi => ?_, by simp; omega⟩, by simp; omega⟩
        · rw [List.length_append]; exact h6
        · rw [List.length_append]; exact h7
        · by_cases hm2 : m < L.length
          · rw [List.getElem?_append_left hm2] at hm
            rw [h12 m hm2 col (List.mem_of_getElem? hm)]
            exact fin.ld m col hm
          · rw [List.getElem?_append_right (by omega)] at hm
            have e0 : m - L.length = 0 := by have := (List.getElem?_eq_some_iff.mp hm).1; simp at this; omega
            rw [e0] at hm
            simp at hm
            have e3 : m = L.length := by omega
            subst hm e3
            exact ⟨h8, h9, by omega⟩
        · by_cases hm2 : m < L.length
          · rw [List.getElem?_append_left hm2] at hm
            by_cases hi2 : i < L.length
            · rw [h12 i hi2 col (List.mem_of_getElem? hm)]
              exact fin.zr m col hm i hi
            · exact h11 col (List.mem_of_getElem? hm) i (by omega)
          · rw [List.getElem?_append_right (by omega)] at hm
            have e0 : m - L.length = 0 := by have := (List.getElem?_eq_some_iff.mp hm).1; simp at this; omega
            rw [e0] at hm
            simp at hm
            subst hm
            exact h10 i (by omega)
  · rintro ρ S' ⟨y, R, T, L, rfl, lo, fin, hL⟩
    refine ⟨trivial, ?_⟩
    have nd : dropR (S ++ [.obj 1 []]) .non S' = S' := by
      refine dropR_not (r := S.length) (by simp) fin.st.ob (fun hb => ?_) (by simp)
      have : S.length + 1 < (S ++ [Cell.obj 1 []]).length := hb.1
      simp at this
    show _ ∧ _ ∧ _
    rw [nd]
    have hrl : (rngL 0 (w : Int)).length = w := by unfold rngL; simp
    rw [hrl] at hL
    exact ⟨rfl, ⟨_, _, fin.st.ob⟩, rfl, lo, _, _, _, R, T, L, fin, hL⟩
end


section
variable {k n s a b c : Nat} {S : Store} {ρ : En} {Q : D → Store → Prop} {R T : List (List Int)} {L : List Nat}
def addR (n : Int) (z row : List Int) : List Int := List.zipWith (fun one other => one + n * other) z row
/-- the sum of rows by numbers -/
def sumA (z : List Int) : List (Int × List Int) → List Int
  | [] => z
  | p :: r => sumA (addR p.1 z p.2) r
def sumR (ns : List Int) (R : List (List Int)) (w : Nat) : List Int := sumA (List.replicate w 0) (ns.zip R)
theorem addR_len {n : Int} {z row : List Int} {w : Nat} (h1 : z.length = w) (h2 : row.length = w) : (addR n z row).length = w := by
  unfold addR
  rw [List.length_zipWith, h1, h2, Nat.min_self]
theorem sumA_len {w : Nat} : ∀ {ps : List (Int × List Int)} {z : List Int}, z.length = w → (∀ p ∈ ps, p.2.length = w) → (sumA z ps).length = w
  | [], _, h, _ => h
  | p :: r, z, h, hp => sumA_len (ps := r) (addR_len h (hp p (by simp))) fun q hq => hp q (by simp [hq])
theorem zip_mem {α β : Type} {x : α} {y : β} {xs : List α} {ys : List β} (h : (x, y) ∈ xs.zip ys) : x ∈ xs ∧ y ∈ ys := ⟨(List.of_mem_zip h).1, (List.of_mem_zip h).2⟩
theorem sumR_len {ns : List Int} {w : Nat} (h : Wd R w) : (sumR ns R w).length = w := sumA_len (by simp) fun p hp => h _ (zip_mem hp).2
theorem addR_abs {n : Int} {A B C : Nat} (hn : n.natAbs ≤ A) : ∀ {z row : List Int}, (∀ x ∈ z, x.natAbs ≤ C) → (∀ x ∈ row, x.natAbs ≤ B) → ∀ x ∈ addR n z row, x.natAbs ≤ C + A * B
  | [], _, _, _, x, h => by simp [addR] at h
  | _ :: _, [], _, _, x, h => by simp [addR] at h
  | u :: z, v :: row, hz, hr, x, h => by
    unfold addR at h
    rw [List.zipWith_cons_cons] at h
    rcases List.mem_cons.mp h with rfl | h
    · have h1 := hz u (by simp)
      have h2 := hr v (by simp)
      have h3 : n.natAbs * v.natAbs ≤ A * B := Nat.mul_le_mul hn h2
      have h4 : (n * v).natAbs = n.natAbs * v.natAbs := Int.natAbs_mul ..
      omega
    · exact addR_abs hn (fun x hx => hz x (by simp [hx])) (fun x hx => hr x (by simp [hx])) x h
theorem sumA_abs {A B : Nat} : ∀ {ps : List (Int × List Int)} {z : List Int} {C : Nat}, (∀ x ∈ z, x.natAbs ≤ C) → (∀ p ∈ ps, p.1.natAbs ≤ A ∧ ∀ x ∈ p.2, x.natAbs ≤ B) → ∀ x ∈ sumA z ps, x.natAbs ≤ C + ps.length * (A * B)
  | [], z, C, hz, _, x, h => by have := hz x h; simp; exact this
  | p :: r, z, C, hz, hp, x, h => by
    have h1 := sumA_abs (ps := r) (z := addR p.1 z p.2) (C := C + A * B) (addR_abs (hp p (by simp)).1 hz (hp p (by simp)).2) (fun q hq => hp q (by simp [hq])) x h
    rw [List.length_cons, Nat.add_mul, Nat.one_mul]
    omega
theorem sumR_abs {ns : List Int} {w A B : Nat} (hn : ∀ n ∈ ns, n.natAbs ≤ A) (hR : ∀ row ∈ R, ∀ x ∈ row, x.natAbs ≤ B) : ∀ x ∈ sumR ns R w, x.natAbs ≤ ns.length * (A * B) := fun x h => by
  have := sumA_abs (C := 0) (A := A) (B := B) (z := List.replicate w 0) (ps := ns.zip R) (fun x hx => by rw [(List.mem_replicate.mp hx).2]; simp) (fun p hp => ⟨hn _ (zip_mem hp).1, hR _ (zip_mem hp).2⟩) x h
  have h2 : (ns.zip R).length ≤ ns.length := by rw [List.length_zip]; omega
  have h3 := Nat.mul_le_mul_right (A * B) h2
  omega
/-- the loop of both sums -/
theorem sum_loop {ns : List Int} {w : Nat} {dn dr : D} {x : Option D} {U : RS → Prop} (hn : ISeq S dn ns) (hr : RSeq S dr R) (hw : Wd R w) (hw9 : w < 1000) (hm : ∀ m ∈ ns, ∀ row ∈ R, ∀ z ∈ row, mulOk m z)
    (hU : ∀ X r x y, (S ++ X)[r]? = some (.lst ((sumR ns R w).map .int)) → S.length ≤ r → U (.nx [some dn, some dr, some (.int (w : Nat)), some (.ref r), x, y, none, none] (S ++ X))) :
    PZ (sSeq (sAsg (gOne 3) (eOp oMul (eLst (aCons (eC (.int 0)) aNil)) (eSlot 2)))
      (sFor (iZip (eSlot 0) (eSlot 1)) (.many [4, 5]) (sAsg (gOne 3) (eComp [6, 7] (iZip (eSlot 3) (eSlot 5)) (.many [6, 7]) tTrue (eOp oAdd (eSlot 6) (eOp oMul (eSlot 4) (eSlot 7))))))) [some dn, some dr, some (.int (w : Nat)), x, none, none, none, none] S U := by
  have big := sizeLine_big
  rw [PZ_seq, PZ_asg, PM_eOp, PM_eLst, PM_aCons, PM_eC, PM_aNil]
  refine ⟨by simp; omega, ?_⟩
  rw [PM_slot (i := 2) (d := .int (w : Nat)) rfl, PM_mulL get_last]
  refine ⟨⟨by omega, by omega, by simp; omega⟩, ?_⟩
  rw [PZ_one, SQ_nx]
  have e0 : (List.replicate ((w : Int)).toNat [D.int 0]).flatten = (List.replicate w (0 : Int)).map .int := by
    have : ((w : Int)).toNat = w := by omega
    rw [this]
    induction w with
    | zero => rfl
    | succ m ih => simp [List.replicate_succ]
  rw [e0]
  change PZ _ [some dn, some dr, some (.int (w : Nat)), some (.ref _), none, none, none, none] _ _
  rw [PZ_for, PM_zip, PM_slot (i := 0) (d := dn) rfl, PM_slot (i := 1) (d := dr) rfl]
  have hn2 := (hn.ap [.lst [.int 0]]).ap [.lst ((List.replicate w (0 : Int)).map .int)]
  have hr2 := (hr.ap [.lst [.int 0]]).ap [.lst ((List.replicate w (0 : Int)).map .int)]
  obtain ⟨s1, q1, k1⟩ := hn2.seq
  obtain ⟨ds, s2, q2, k2, l2, i2⟩ := hr2.seq
  rw [PM_of q1, PM_of q2]
  refine PZ_go (fun j ρ S' => ∃ X r x y, S' = (S ++ [.lst [.int 0]]) ++ [.lst ((List.replicate w (0 : Int)).map .int)] ++ X ∧ S'[r]? = some (.lst ((sumA (List.replicate w 0) ((ns.zip R).take j)).map .int)) ∧ S.length ≤ r ∧ ρ = [some dn, some dr, some (.int (w : Nat)), some (.ref r), x, y, none, none]) ⟨[], (S ++ [Cell.lst [.int 0]]).length, none, none, by simp, by simp [sumA], by simp, rfl⟩ ?_ ?_
  · rintro j d ρ S' hj ⟨X, r, x, y, rfl, hrr, hge, rfl⟩
    obtain ⟨u, v, h1, h2, rfl⟩ := zip_at hj
    rw [List.getElem?_map] at h1
    obtain ⟨m, hm1, rfl⟩ := Option.map_eq_some_iff.mp h1
    have hjl : j < R.length := by rw [← l2]; exact (List.getElem?_eq_some_iff.mp h2).1
    have hrow := List.getElem?_eq_getElem hjl
    have hv := (i2 j v _ h2 hrow).ap X
    refine ⟨⟨k1 X, k2 X⟩, _, rfl, ?_⟩
    change PZ _ [some dn, some dr, some (.int (w : Nat)), some (.ref r), some (.int m), some v, none, none] _ _
    rw [PZ_asg]
    have hzl : (sumA (List.replicate w 0) ((ns.zip R).take j)).length = w := sumA_len (by simp) fun p hp => hw _ (zip_mem (List.mem_of_mem_take hp)).2
    refine PM_zipc (fun one other => one + m * other) (pm_eq fun Q => PM_slot (i := 3) (d := .ref r) rfl) (pm_eq fun Q => PM_slot (i := 5) (d := v) rfl) (.inl ⟨r, rfl, hrr⟩) hv (by rw [hzl]; omega) (fun p hp q hq acc => ?_) ?_
    · simp only [PM_ret, PM_bind, PM_guard, PM_slot', PM_eC, PM_eOp, PM_eUn, PM_eT, PM_tV, PM_eAnd, PM_eOr, PM_tAnd, PM_tOr, PM_tNot, PM_eIf, PM_tIf, PM_tCmp, PM_tChn, PM_last, PM_more, PM_aNil, PM_aCons, PM_eTup, PM_eLst, PM_eCall, PM_eNew, PM_eDrop, PM_add, PM_sub, PM_mul, PM_fdiv, PM_mod, PM_pow, PM_neg, PM_lt, PM_le, PM_gt, PM_ge, PM_eqi, PM_nei, own_int, own_bl, own_tup, own_str, PM_isNon, PM_isBl, PM_isnot, PM_tbl, PM_tint, PM_tnon, PM_ttup, PM_lenT, PM_lenF, PM_int, PM_abs, PM_tupT, PM_lstF, PM_ixT, PM_eM, PM_iSeq, PM_seqT, PM_seqF, PM_rng1, PM_rng2, PM_enum, PZ_bind, PZ_nx, PZ_bk, PZ_ct, PZ_rt, SQ_nx, SQ_rt, SQ_ct, SQ_bk, TQ_nx, TQ_ct, TQ_bk, TQ_rt, PZ_seq, PZ_ret, PZ_drop, PZ_if, PZ_asg, PZ_one, PZ_par, PZ_allN, PZ_allC, PZ_tup, PZ_sub, PZ_fld, PZ_for, List.getElem?_cons_zero, List.getElem?_cons_succ, Option.some.injEq, exists_eq_left', exists_eq_left, List.set_cons_zero, List.set_cons_succ, setAll, List.length_cons, List.length_nil, List.map_cons, List.map_nil, Nat.reduceAdd, Nat.reduceSub, List.replicate, List.cons_append, List.nil_append, true_and, and_true, Bool.not_true, Bool.not_false, if_true, if_false, Bool.false_eq_true, D.int.injEq, D.isNon, D.isBl, Nat.reduceLeDiff, dropR_len, Nat.le_refl, ite_true, ite_false, reduceCtorEq, List.foldr_cons, List.foldr_nil]
      exact hm m (List.mem_of_getElem? hm1) _ (List.mem_of_getElem? hrow) q hq
    · rw [PZ_one, TQ_nx]
      have tk : (ns.zip R).take (j + 1) = (ns.zip R).take j ++ [(m, R[j])] := by
        rw [List.take_succ]
        have : (ns.zip R)[j]? = some (m, R[j]) := by rw [List.getElem?_zip_eq_some]; exact ⟨hm1, hrow⟩
        rw [this]; rfl
      have ap : ∀ (ps : List (Int × List Int)) (z : List Int) (p : Int × List Int), sumA z (ps ++ [p]) = addR p.1 (sumA z ps) p.2 := fun ps => by
        induction ps with
        | nil => exact fun z p => rfl
        | cons q ps ih => exact fun z p => ih _ p
      refine ⟨X ++ [.lst ((addR m (sumA (List.replicate w 0) ((ns.zip R).take j)) R[j]).map .int)], _, _, _, by rw [List.append_assoc]; rfl, ?_, ?_, rfl⟩
      · rw [tk, ap]
        exact get_last
      · simp only [List.length_append]
        omega
  · rintro ρ S' ⟨X, r, x, y, rfl, hrr, hge, rfl⟩
    refine ⟨⟨k1 X, k2 X⟩, ?_⟩
    have e1 : (ns.zip R).take (zipL (ns.map D.int) ds).length = ns.zip R := by
      rw [zipL_length, List.length_map, l2]
      exact List.take_of_length_le (by rw [List.length_zip]; omega)
    rw [e1] at hrr
    have hrr : ((S ++ [Cell.lst [.int 0]]) ++ [Cell.lst ((List.replicate w (0 : Int)).map .int)] ++ X)[r]? = some (.lst ((sumR ns R w).map .int)) := hrr
    have := hU ([.lst [.int 0]] ++ [.lst ((List.replicate w (0 : Int)).map .int)] ++ X) r x y (by simpa using hrr) hge
    simpa using this
theorem m_sum {ns : List Int} {w : Nat} {dn dr : D} (hn : ISeq S dn ns) (hr : RSeq S dr R) (hw : Wd R w) (hw9 : w < 1000) (hm : ∀ m ∈ ns, ∀ row ∈ R, ∀ z ∈ row, mulOk m z)
    (hQ : ∀ X r, (S ++ X)[r]? = some (.lst ((sumR ns R w).map .int)) → S.length ≤ r → Q (.ref r) (S ++ X)) : PM ((CC (k + 1)).fn 33 [dn, dr, .int (w : Nat)]) S Q := by
  refine PM_fn rfl rfl rfl ?_
  unfold b_sum_of
  change PZ (sSeq _ (sSeq _ _)) [some dn, some dr, some (.int (w : Nat)), none, none, none, none, none] S _
  have assoc : ∀ (f g h : Sv) (ρ : En) (S : Store) (U : RS → Prop), PZ (sSeq (sSeq f g) h) ρ S U → PZ (sSeq f (sSeq g h)) ρ S U := fun f g h ρ S U z => by
    rw [PZ_seq] at z ⊢
    rw [PZ_seq] at z
    refine z.imp fun r q => ?_
    cases r with
    | nx ρ' S' =>
      rw [SQ_nx] at q ⊢
      rw [PZ_seq]
      refine PZ.imp q fun r q => ?_
      cases r <;> exact q
    | _ => exact q
  refine assoc _ _ _ _ _ _ ?_
  rw [PZ_seq]
  refine sum_loop hn hr hw hw9 hm fun X r x y h hge => ?_
  rw [SQ_nx, PZ_ret, PM_slot (i := 3) (d := .ref r) rfl]
  show Q _ (dropR S (.ref r) (S ++ X))
  have nd : dropR S (.ref r) (S ++ X) = S ++ X := by
    unfold dropR
    split
    · rfl
    · rw [if_neg]
      rintro ⟨_, hb⟩
      have hb : r < S.length := hb
      omega
  rw [nd]
  exact hQ X r h hge
end


section
variable {k n s a b c w N B0 : Nat} {S : Store} {ρ : En} {Q : D → Store → Prop} {R T : List (List Int)} {L : List Nat}
theorem dropR_new {S' : Store} {d : D} (h : ¬ belowD S.length d) : dropR S d S' = S' := by
  unfold dropR
  split
  · rfl
  · rw [if_neg fun z => h z.2]
theorem set_ap {X : Store} {r : Nat} {y : Cell} (h : S.length ≤ r) : (S ++ X).set r y = S ++ X.set (r - S.length) y := by
  rw [List.set_append, if_neg (by omega)]
theorem enum_at {xs : List D} {j : Nat} {d : D} (h : (enumL xs)[j]? = some d) : ∃ x, xs[j]? = some x ∧ d = .tup [.int j, x] := by
  unfold enumL at h
  rw [List.getElem?_map, List.getElem?_zipIdx] at h
  cases e : xs[j]? with
  | none => rw [e] at h; cases h
  | some x =>
    rw [e] at h
    simp at h
    exact ⟨x, rfl, h.symm⟩
theorem enum_len {xs : List D} : (enumL xs).length = xs.length := by unfold enumL; simp
theorem subR_abs {q : Int} {A B C : Nat} (hq : q.natAbs ≤ A) : ∀ {xs ys : List Int}, (∀ x ∈ xs, x.natAbs ≤ C) → (∀ y ∈ ys, y.natAbs ≤ B) → ∀ z ∈ subR q xs ys, z.natAbs ≤ C + A * B
  | [], _, _, _, z, h => by simp [subR] at h
  | _ :: _, [], _, _, z, h => by simp [subR] at h
  | x :: xs, y :: ys, hx, hy, z, h => by
    unfold subR at h
    rw [List.zipWith_cons_cons] at h
    rcases List.mem_cons.mp h with rfl | h
    · have h1 := abs_sub x q y
      have h2 : q.natAbs * y.natAbs ≤ A * B := Nat.mul_le_mul hq (hy y (by simp))
      have h3 := hx x (by simp)
      omega
    · exact subR_abs hq (fun x hx' => hx x (by simp [hx'])) (fun y hy' => hy y (by simp [hy'])) z h
theorem Fin.row (f : Fin n S s a b c w N B0 R T L) {j : Nat} (hj : j < N) : ∃ xs, R[j]? = some xs ∧ xs.length = w ∧ ∀ x ∈ xs, x.natAbs ≤ bB N B0 L.length := by
  have e : R[j]? = some (R[j]'(by rw [f.lR]; exact hj)) := List.getElem?_eq_getElem _
  exact ⟨_, e, f.wR.at e, f.eR.mem e⟩
theorem m_low (f : Fin n S s a b c w N B0 R T L) {xs : List Int} {d : D} {C kb eb : Nat} (hd : ISeq S d xs) (hl : xs.length = w) (hC : ∀ x ∈ xs, x.natAbs ≤ C) (hN : N < 1000) (hw9 : w < 1000) (hE : ∀ j, j < L.length → bB N B0 j < 2 ^ eb) (heb : eb < 9000)
    (hkb : C * (1 + bB N B0 L.length) ^ L.length < 2 ^ kb) (hkb1 : bB N B0 L.length < 2 ^ kb) (hkb2 : kb ≤ 10000000)
    (hQ : ∀ (X : Store) (rn rl : Nat) (ns ls : List Int), (S ++ X)[rn]? = some (.lst (ns.map .int)) → (S ++ X)[rl]? = some (.lst (ls.map .int)) → ns.length = L.length → ls.length = w → (∀ x ∈ ns, x.natAbs ≤ C * (1 + bB N B0 L.length) ^ L.length) → (∀ x ∈ ls, x.natAbs ≤ C * (1 + bB N B0 L.length) ^ L.length) → Q (.tup [.ref rn, .ref rl]) (S ++ X)) :
    PM ((CC (k + 1)).fn 10 [.ref s, d]) S Q := by
  refine PM_fn rfl rfl rfl ?_
  unfold b_Stepper_lowered
  change PZ _ [some (.ref s), some d, none, none, none, none, none, none, none, none] S _
  have big := sizeLine_big
  have two : ∀ x y : D, ([x, y] : List D).length ≤ sizeLine := fun x y => by simp; omega
  rw [PZ_seq, PZ_par, PM_aCons, PM_eLst, PM_aNil]
  refine ⟨by simp, ?_⟩
  rw [PM_aCons, PM_eUn, PM_slot (i := 1) (d := d) rfl, (hd.ap _).lst, PM_aNil]
  refine ⟨rfl, ?_⟩
  rw [SQ_nx]
  change PZ _ [some (.ref s), some d, some (.ref S.length), some (.ref (S ++ [Cell.lst []]).length), none, none, none, none, none, none] _ _
  have f1 := (f.st.ap [.lst []]).ap [.lst (xs.map .int)]
  rw [PZ_seq, PZ_for, PM_enum, rd_L f1 rfl, PM_seqL f1.rc]
  have hM : 1 ≤ 1 + bB N B0 L.length := by omega
  refine PZ_go (fun j ρ S' => ∃ (X : Store) (rn rl : Nat) (ns ls : List Int) (x y z t : Option D), S' = S ++ X ∧ ρ = [some (.ref s), some d, some (.ref rn), some (.ref rl), x, y, z, t, none, none] ∧ S'[rn]? = some (.lst (ns.map .int)) ∧ S'[rl]? = some (.lst (ls.map .int)) ∧ S.length ≤ rn ∧ S.length ≤ rl ∧ rn ≠ rl ∧ ns.length = j ∧ ls.length = w ∧
    (∀ x ∈ ns, x.natAbs ≤ C * (1 + bB N B0 L.length) ^ L.length) ∧ (∀ x ∈ ls, x.natAbs ≤ C * (1 + bB N B0 L.length) ^ j)) ⟨[.lst []] ++ [.lst (xs.map .int)], _, _, [], xs, _, _, _, _, by rw [List.append_assoc], rfl, by simp, by simp, by simp, by simp, by simp, rfl, hl, by simp, by simpa using hC⟩ ?_ ?_
  · rintro j v ρ S' hj ⟨X, rn, rl, ns, ls, x, y, z, t, rfl, rfl, hn, hls, g1, g2, g3, l1, l2, b1, b2⟩
    obtain ⟨u, hu, rfl⟩ := enum_at hj
    rw [List.getElem?_map] at hu
    obtain ⟨col, hcol, rfl⟩ := Option.map_eq_some_iff.mp hu
    have hjL : j < L.length := (List.getElem?_eq_some_iff.mp hcol).1
    obtain ⟨d1, d2, d3⟩ := f.ld j col hcol
    obtain ⟨row, r1, r2, r3⟩ := f.row (j := j) (by have := f.le; omega)
    have fX := f.st.ap X
    have hr8 := hE j hjL
    refine ⟨fX.rc, _, rfl, ?_⟩
    change PZ _ [some (.ref s), some d, some (.ref rn), some (.ref rl), some (natD j), some (natD col), z, t, none, none] _ _
    obtain ⟨q, q1, q2, q3⟩ := rd_row (ρ := [some (.ref s), some d, some (.ref rn), some (.ref rl), some (natD j), some (natD col), z, t, none, none]) fX (i := 0) (j := 4) rfl rfl r1
    rw [PZ_seq, PZ_asg, q3, PZ_one, SQ_nx]
    change PZ _ [some (.ref s), some d, some (.ref rn), some (.ref rl), some (natD j), some (natD col), some (.ref q), t, none, none] _ _
    have ecl : ls[col]? = some (ls[col]'(by omega)) := List.getElem?_eq_getElem _
    have ecr : row[col]? = some (ent R j col) := by
      rw [ent_of r1, List.getD_eq_getElem?_getD, List.getElem?_eq_getElem (by omega)]; rfl
    have e1 : (ls.map D.int)[col]? = some (.int (ls[col]'(by omega))) := by rw [List.getElem?_map, ecl]; rfl
    have e2 : (row.map D.int)[col]? = some (.int (ent R j col)) := by rw [List.getElem?_map, ecr]; rfl
    have hlc := b2 _ (List.getElem_mem (by omega : col < ls.length))
    generalize hlcv : ls[col]'(by omega) = lc at e1 hlc
    rw [PZ_seq, PZ_asg, PM_eOp, PM_eOp, PM_slot (i := 3) (d := .ref rl) rfl, PM_slot (i := 5) (d := .int (col : Nat)) rfl, PM_ixL hls]
    refine ⟨_, atI_nat e1, ?_⟩
    rw [PM_eOp, PM_slot (i := 6) (d := .ref q) rfl, PM_slot (i := 5) (d := .int (col : Nat)) rfl, PM_ixL q1]
    refine ⟨_, atI_nat e2, ?_⟩
    rw [PM_fdiv]
    refine ⟨divOk_b (b := eb) heb (by omega) (by omega), ?_⟩
    rw [PZ_one, SQ_nx]
    have hqa : (lc.fdiv (ent R j col)).natAbs ≤ C * (1 + bB N B0 L.length) ^ j := Nat.le_trans (fdiv_abs d1) hlc
    generalize hqv : lc.fdiv (ent R j col) = qv at hqa
    have pj : C * (1 + bB N B0 L.length) ^ j ≤ C * (1 + bB N B0 L.length) ^ L.length := Nat.mul_le_mul_left _ (Nat.pow_le_pow_right hM (by omega))
    have pj1 : C * (1 + bB N B0 L.length) ^ (j + 1) = C * (1 + bB N B0 L.length) ^ j + C * (1 + bB N B0 L.length) ^ j * bB N B0 L.length := by
      rw [Nat.pow_succ, ← Nat.mul_assoc, Nat.mul_add, Nat.mul_one]
    change PZ _ [some (.ref s), some d, some (.ref rn), some (.ref rl), some (natD j), some (natD col), some (.ref q), some (.int qv), none, none] _ _
    rw [PZ_seq, PZ_drop, PM_eM, PM_slot (i := 2) (d := .ref rn) rfl]
    refine ⟨kindL hn, ?_⟩
    rw [PM_aCons, PM_slot (i := 7) (d := .int qv) rfl, PM_aNil, PM_append hn (by rw [List.length_map]; have := f.le; omega), SQ_nx]
    have en : ns.map D.int ++ [.int qv] = (ns ++ [qv]).map .int := by rw [List.map_append]; rfl
    rw [en, set_ap g1]
    have hn2 : (S ++ X.set (rn - S.length) (.lst ((ns ++ [qv]).map .int)))[rn]? = some (.lst ((ns ++ [qv]).map .int)) := by rw [← set_ap g1]; exact set_self hn
    have hl2 : (S ++ X.set (rn - S.length) (.lst ((ns ++ [qv]).map .int)))[rl]? = some (.lst (ls.map .int)) := by rw [← set_ap g1]; exact get_set hls (Ne.symm g3)
    have hq2 : (S ++ X.set (rn - S.length) (.lst ((ns ++ [qv]).map .int)))[q]? = some (.lst (row.map .int)) := by
      have hqS : q < S.length := by
        obtain ⟨ds, t1, t2, t3⟩ := f.st.ra
        obtain ⟨q', t4, t5⟩ := t2.at r1
        have := (q3 fun d' S' => d' = .ref q')
        rw [PM_eOp, rd_R fX (i := 0) rfl, PM_slot (i := 4) (d := .int (j : Nat)) rfl, PM_ixL (get_ap t1)] at this
        have e := this.mp ⟨_, atI_nat t4, rfl⟩
        cases e
        exact (t3 q (List.mem_of_getElem? t4)).2
      rw [List.getElem?_append_left hqS] at q1 ⊢
      exact q1
    rw [PZ_asg]
    refine PM_zipc (fun one other => one - qv * other) (pm_eq fun Q => PM_slot (i := 3) (d := .ref rl) rfl) (pm_eq fun Q => PM_slot (i := 6) (d := .ref q) rfl) (.inl ⟨rl, rfl, hl2⟩) (.inl ⟨q, rfl, hq2⟩) (by omega) (fun u hu v hv acc => ?_) ?_
    · simp only [PM_ret, PM_bind, PM_guard, PM_slot', PM_eC, PM_eOp, PM_eUn, PM_eT, PM_tV, PM_eAnd, PM_eOr, PM_tAnd, PM_tOr, PM_tNot, PM_eIf, PM_tIf, PM_tCmp, PM_tChn, PM_last, PM_more, PM_aNil, PM_aCons, PM_eTup, PM_eLst, PM_eCall, PM_eNew, PM_eDrop, PM_add, PM_sub, PM_mul, PM_fdiv, PM_mod, PM_pow, PM_neg, PM_lt, PM_le, PM_gt, PM_ge, PM_eqi, PM_nei, own_int, own_bl, own_tup, own_str, PM_isNon, PM_isBl, PM_isnot, PM_tbl, PM_tint, PM_tnon, PM_ttup, PM_lenT, PM_lenF, PM_int, PM_abs, PM_tupT, PM_lstF, PM_ixT, PM_eM, PM_iSeq, PM_seqT, PM_seqF, PM_rng1, PM_rng2, PM_enum, PZ_bind, PZ_nx, PZ_bk, PZ_ct, PZ_rt, SQ_nx, SQ_rt, SQ_ct, SQ_bk, TQ_nx, TQ_ct, TQ_bk, TQ_rt, PZ_seq, PZ_ret, PZ_drop, PZ_if, PZ_asg, PZ_one, PZ_par, PZ_allN, PZ_allC, PZ_tup, PZ_sub, PZ_fld, PZ_for, List.getElem?_cons_zero, List.getElem?_cons_succ, Option.some.injEq, exists_eq_left', exists_eq_left, List.set_cons_zero, List.set_cons_succ, setAll, List.length_cons, List.length_nil, List.map_cons, List.map_nil, Nat.reduceAdd, Nat.reduceSub, List.replicate, List.cons_append, List.nil_append, true_and, and_true, Bool.not_true, Bool.not_false, if_true, if_false, Bool.false_eq_true, D.int.injEq, D.isNon, D.isBl, Nat.reduceLeDiff, dropR_len, Nat.le_refl, ite_true, ite_false, reduceCtorEq, List.foldr_cons, List.foldr_nil]
      exact mulOk_b hkb2 (by omega) (by have := r3 v hv; omega)
    · rw [PZ_one, TQ_nx]
      have lsR := subR_len (q := qv) l2 r2
      refine ⟨X.set (rn - S.length) (.lst ((ns ++ [qv]).map .int)) ++ [.lst ((subR qv ls row).map .int)], rn, _, ns ++ [qv], subR qv ls row, _, _, _, _, by rw [List.append_assoc]; rfl, rfl, get_ap hn2, get_last, g1, by simp, by have := get_lt hn2; omega, by simp [l1], lsR, fun u hu => ?_, fun u hu => ?_⟩
      · rcases List.mem_append.mp hu with z | z
        · exact b1 u z
        · cases List.mem_singleton.mp z
          omega
      · rw [pj1]
        exact subR_abs hqa b2 r3 u hu
  · rintro ρ S' ⟨X, rn, rl, ns, ls, x, y, z, t, rfl, rfl, hn, hls, g1, g2, g3, l1, l2, b1, b2⟩
    rw [enum_len, List.length_map] at l1 b2
    refine ⟨(f.st.ap X).rc, ?_⟩
    rw [SQ_nx, PZ_ret, PM_eTup, PM_aCons, PM_slot (i := 2) (d := .ref rn) rfl, PM_aCons, PM_slot (i := 3) (d := .ref rl) rfl, PM_aNil]
    refine ⟨two _ _, ?_⟩
    show Q _ (dropR S (.tup [.ref rn, .ref rl]) (S ++ X))
    rw [dropR_new (fun hb => by have : rn < S.length := hb.1; omega)]
    exact hQ X rn rl ns ls hn hls l1 l2 b1 b2
end


section
variable {k n s a b c w N B0 : Nat} {S : Store} {ρ : En} {Q : D → Store → Prop} {R T : List (List Int)} {L : List Nat}
theorem cut_take {xs : List D} {i : Nat} : cutD xs none (some (i : Int)) = xs.take i := by
  unfold cutD
  rw [HT.sIx_nat, HT.sIx_none, Nat.sub_zero, List.drop_zero]
  by_cases h : i ≤ xs.length
  · rw [Nat.min_eq_left h]
  · rw [Nat.min_eq_right (by omega), List.take_of_length_le (Nat.le_refl _), List.take_of_length_le (by omega)]
theorem PM_cutL {r : Nat} {xs : List D} {o p : Option Int} (h : S[r]? = some (.lst xs)) : PM (oCut (.ref r) o p) S Q ↔ Q (.ref S.length) (S ++ [.lst (cutD xs o p)]) := by
  show PM (M.bind (getL r) fun xs => newL (cutD xs o p)) S Q ↔ _
  rw [PM_bind, PM_getL h, PM_newL]
theorem PM_cut {ea : Ev} {lo hi : Ov} : PM (eCut ea lo hi ρ) S Q ↔ PM (ea ρ) S fun x S1 => PM (lo ρ) S1 fun l S2 => PM (hi ρ) S2 fun u S3 => PM (oCut x l u) S3 Q := by
  unfold eCut
  simp only [PM_bind]
theorem PM_pNone {U : Option Int → Store → Prop} : PM (pNone ρ) S U ↔ U none S := PM_ret
theorem PM_pSome {e : Ev} {U : Option Int → Store → Prop} {i : Int} (h : PM (e ρ) S fun d S' => d = .int i ∧ S' = S) : PM (pSome e ρ) S U ↔ U (some i) S := by
  obtain ⟨_, _, e1, rfl, rfl⟩ := h
  exact PM_of (by unfold pSome; rw [M.bind_ok e1]; rfl)
theorem m_form (h : Stp n S s a b c R T L) (hl : L.length ≤ R.length) (hQ : ∀ ds, Tab (S ++ [.lst ds]) ds (R.take L.length) → (∀ q, .ref q ∈ ds → q < S.length) → Q (.ref S.length) (S ++ [.lst ds])) : PM ((CC (k + 1)).fn 8 [.ref s]) S Q := by
  refine PM_fn rfl rfl rfl ?_
  unfold b_Stepper_form
  change PZ _ [some (.ref s)] S _
  obtain ⟨ds, h1, h2, h3⟩ := h.ra
  rw [PZ_ret, PM_cut, rd_R h rfl, PM_pNone, PM_pSome (i := (L.length : Nat)) (by rw [PM_eUn, rd_L h rfl, PM_lenL h.rc, List.length_map]; exact ⟨rfl, rfl⟩), PM_cutL h1, cut_take]
  show Q _ (dropR S (.ref S.length) _)
  rw [dropR_new (S := S) (d := .ref S.length) (fun hb => Nat.lt_irrefl _ (show S.length < S.length from hb))]
  refine hQ _ ⟨by rw [List.length_take, List.length_take, h2.1], fun i d hi => ?_⟩ fun q hq => (h3 q (List.mem_of_mem_take hq)).2
  rw [List.getElem?_take] at hi
  split at hi
  · rename_i hlt
    obtain ⟨r, xs, g1, g2, g3⟩ := h2.2 i d hi
    exact ⟨r, xs, g1, by rw [List.getElem?_take, if_pos hlt]; exact g2, get_ap g3⟩
  · cases hi
theorem fmod_abs {x y : Int} (h : y ≠ 0) : (x.fmod y).natAbs < y.natAbs := by
  by_cases hp : 0 < y
  · have h1 := Int.fmod_nonneg_of_pos x hp
    have h2 := Int.fmod_lt_of_pos x hp
    omega
  · have e : x.fmod y = -((-x).fmod (-y)) := by rw [Int.neg_fmod_neg]; omega
    have h1 := Int.fmod_nonneg_of_pos (-x) (show 0 < -y by omega)
    have h2 := Int.fmod_lt_of_pos (-x) (show 0 < -y by omega)
    omega
theorem gcd_while {U : RS → Prop} : ∀ (m : Nat) (x y : Int), y.natAbs ≤ m → (∀ v : Int, v ∣ x → v ∣ y → (x ≠ 0 ∨ y ≠ 0 → v ≠ 0) → U (.nx [some (.int v), some (.int 0)] S)) →
    PZ (sWhile (tV (eSlot 1)) (sPar [0, 1] (aCons (eSlot 1) (aCons (eOp oMod (eSlot 0) (eSlot 1)) aNil)))) [some (.int x), some (.int y)] S U := by
  intro m
  induction m with
  | zero =>
    intro x y hy h
    have : y = 0 := by omega
    subst this
    refine PZ_while ?_
    rw [PM_tV, PM_slot (i := 1) (d := .int 0) rfl, PM_tint]
    simp only [bne_self_eq_false, Bool.false_eq_true, if_false]
    exact h x (Int.dvd_refl x) (Int.dvd_zero x) (fun z => z.elim id fun z => absurd rfl z)
  | succ m ih =>
    intro x y hy h
    refine PZ_while ?_
    rw [PM_tV, PM_slot (i := 1) (d := .int y) rfl, PM_tint]
    by_cases hz : y = 0
    · subst hz
      simp only [bne_self_eq_false, Bool.false_eq_true, if_false]
      exact h x (Int.dvd_refl x) (Int.dvd_zero x) (fun z => z.elim id fun z => absurd rfl z)
    · have : (y != 0) = true := by simpa using hz
      rw [this, if_pos rfl, PZ_par, PM_aCons, PM_slot (i := 1) (d := .int y) rfl, PM_aCons, PM_eOp, PM_slot (i := 0) (d := .int x) rfl, PM_slot (i := 1) (d := .int y) rfl, PM_mod, PM_aNil]
      refine ⟨hz, rfl, ?_⟩
      rw [TQ_nx]
      change PZ _ [some (.int y), some (.int (x.fmod y))] S _
      have := fmod_abs (x := x) hz
      refine ih y (x.fmod y) (by omega) fun v h1 h2 h3 => h v ?_ h1 fun _ => h3 (.inl hz)
      have e : x = x.fmod y + y * x.fdiv y := by have := Int.fmod_add_mul_fdiv x y; omega
      rw [e]
      exact Int.dvd_add h2 (Int.dvd_trans h1 (Int.dvd_mul_right _ _))
theorem m_gcd (x y : Int) : PM ((CC (k + 1)).fn 40 [.int x, .int y]) S fun d S' => S' = S ∧ ∃ g : Nat, d = .int (g : Nat) ∧ (g : Int) ∣ x ∧ (g : Int) ∣ y ∧ (x ≠ 0 → 0 < g) := by
  refine PM_fn rfl rfl rfl ?_
  unfold b_greatest_divisor
  change PZ _ [some (.int x), some (.int y)] S _
  rw [PZ_seq]
  refine gcd_while y.natAbs x y (Nat.le_refl _) fun v h1 h2 h3 => ?_
  rw [SQ_nx, PZ_ret, PM_eUn, PM_slot (i := 0) (d := .int v) rfl, PM_abs]
  refine ⟨dropR_len (Nat.le_refl _), v.natAbs, by congr 1; split <;> omega, by rw [Int.natAbs_dvd]; exact h1, by rw [Int.natAbs_dvd]; exact h2, fun hx => by have := h3 (.inl hx); omega⟩
/-- a filtered comprehension whose items are made without allocating -/
theorem PM_fltI {own : List Nat} {it : Iv} {tg : Tg} {cnd : Tv} {el : Ev} (h : PM (it ρ) S fun itm S1 => itm.items.length < sizeLine ∧ (∀ X, itm.src.ok (S1 ++ X)) ∧ ∃ J : Nat → List D → Prop, J 0 [] ∧
    (∀ (j : Nat) (d : D) (acc : List D), itm.items[j]? = some d → J j acc → ∃ ρ1, tg.asg d (own.foldr (fun i ρ => ρ.set i none) ρ) = some ρ1 ∧ PM (cnd ρ1) (S1 ++ [.lst acc]) fun q S2 => S2 = S1 ++ [.lst acc] ∧
      (q = true → PM (el ρ1) S2 fun y S3 => S3 = S2 ∧ J (j + 1) (acc ++ [y])) ∧ (q = false → J (j + 1) acc)) ∧
    (∀ acc, J itm.items.length acc → Q (.ref S1.length) (S1 ++ [.lst acc]))) : PM (eComp own it tg cnd el ρ) S Q := by
  refine PM_compI (h.imp ?_)
  rintro itm S1 ⟨hsz, hsrc, J, h0, hs, hQ⟩
  refine ⟨fun j acc S' => S' = S1 ++ [.lst acc] ∧ acc.length ≤ j ∧ J j acc, ⟨rfl, Nat.le_refl _, h0⟩, ?_, ?_⟩
  · rintro j d acc S' hj ⟨rfl, hl, hJ⟩
    obtain ⟨ρ1, h1, h2⟩ := hs j d acc hj hJ
    have hjl : j < itm.items.length := (List.getElem?_eq_some_iff.mp hj).1
    refine ⟨hsrc _, ρ1, h1, h2.imp ?_⟩
    rintro q S2 ⟨rfl, g1, g2⟩
    refine ⟨fun z => (g1 z).imp ?_, fun z => ⟨rfl, by omega, g2 z⟩⟩
    rintro y S3 ⟨rfl, g⟩
    refine ⟨get_last, by show acc.length < _; omega, set_last, by simp; omega, g⟩
  · rintro acc S' ⟨rfl, _, hJ⟩
    exact ⟨hsrc _, hQ acc hJ⟩
theorem rep_int (w : Nat) : (List.replicate ((w : Int)).toNat [D.int 0]).flatten = (List.replicate w (0 : Int)).map .int := by
  have : ((w : Int)).toNat = w := by omega
  rw [this]
  induction w with
  | zero => rfl
  | succ m ih => simp [List.replicate_succ]
end


section
variable {k n s a b c w N B0 : Nat} {S : Store} {ρ : En} {Q : D → Store → Prop} {R T : List (List Int)} {L : List Nat}
/-- the first column with a number that is not 0 -/
theorem fr_col {rl : Nat} {ls : List Int} (hls : S[rl]? = some (.lst (ls.map .int))) (hl : ls.length = w) (hnz : ∃ x ∈ ls, x ≠ 0) (hw9 : w < 1000) (h1 : ρ[1]? = some (some (.ref rl))) (h2 : ρ[2]? = some (some (.int (w : Nat)))) (hρ : 10 < ρ.length)
    (hQ : ∀ X col, col < w → ls.getD col 0 ≠ 0 → Q (natD col) (S ++ X)) : PM (eOp oIx (eComp [10] (iRng1 (eSlot 2)) (.one 10) (tCmp (cOwn Γ (CC k) "__ne__" cNe) (eOp oIx (eSlot 1) (eSlot 10)) (eC (.int 0))) (eSlot 10)) (eC (.int 0)) ρ) S Q := by
  have big := sizeLine_big
  have es : ∀ (d : D) (j : Nat), j ≠ 10 → ((ρ.set 10 none).set 10 (some d))[j]? = ρ[j]? := fun d j hj => by rw [List.getElem?_set_ne (Ne.symm hj), List.getElem?_set_ne (Ne.symm hj)]
  have es2 : ∀ (d : D), ((ρ.set 10 none).set 10 (some d))[10]? = some (some d) := fun d => by rw [List.getElem?_set_self (by simpa using hρ)]
  rw [PM_eOp]
  refine PM_fltI ?_
  rw [PM_rng1, PM_slot h2]
  refine ⟨w, rfl, rngOk_nat (by omega), by show (rngL _ _).length < _; rw [rngL_length]; omega, fun _ => trivial, fun j acc => ∃ cs : List Nat, acc = cs.map natD ∧ (∀ c ∈ cs, c < w ∧ ls.getD c 0 ≠ 0) ∧ ((∃ c, c < j ∧ ls.getD c 0 ≠ 0) → cs ≠ []), ⟨[], rfl, by simp, by simp⟩, ?_, ?_⟩
  · rintro j d acc hj ⟨cs, rfl, g1, g2⟩
    obtain ⟨rfl, hlt⟩ := rng_at hj
    have ej : ((0 : Int) + (j : Int)) = (j : Int) := by omega
    rw [ej]
    have e1 : (ls.map D.int)[j]? = some (.int (ls.getD j 0)) := by
      rw [List.getElem?_map, List.getD_eq_getElem?_getD, List.getElem?_eq_getElem (by omega)]; rfl
    refine ⟨(ρ.set 10 none).set 10 (some (.int (j : Nat))), rfl, ?_⟩
    rw [PM_tCmp, PM_eOp, PM_slot ((es _ 1 (by omega)).trans h1), PM_slot (es2 _), PM_ixL (get_ap hls)]
    refine ⟨_, atI_nat e1, ?_⟩
    rw [PM_eC, own_int, PM_nei]
    by_cases hz : ls.getD j 0 = 0
    · refine ⟨rfl, fun z => by rw [hz] at z; simp at z, fun _ => ⟨cs, rfl, g1, fun ⟨c, h3, h4⟩ => g2 ⟨c, ?_, h4⟩⟩⟩
      by_cases hcj : c = j
      · subst hcj; exact absurd hz h4
      · omega
    · refine ⟨rfl, fun _ => ?_, fun z => by simp at z; exact absurd z hz⟩
      rw [PM_slot (es2 _)]
      refine ⟨rfl, cs ++ [j], by rw [List.map_append]; rfl, fun c hc => ?_, fun _ => by simp⟩
      rcases List.mem_append.mp hc with z | z
      · exact g1 c z
      · cases List.mem_singleton.mp z
        exact ⟨by omega, hz⟩
  · rintro acc ⟨cs, rfl, g1, g2⟩
    rw [rngL_length] at g2
    obtain ⟨x, hx, hx0⟩ := hnz
    obtain ⟨i, hi, rfl⟩ := List.getElem_of_mem hx
    have hne : cs ≠ [] := g2 ⟨i, by omega, by rw [List.getD_eq_getElem?_getD, List.getElem?_eq_getElem hi]; exact hx0⟩
    cases cs with
    | nil => exact absurd rfl hne
    | cons c0 cs =>
      rw [PM_eC, PM_ixL get_last]
      have := g1 c0 (by simp)
      exact ⟨natD c0, atI_nat (n := 0) (by simp), hQ _ c0 this.1 this.2⟩
/-- the leading number of that column, where there is one -/
theorem fr_lead (f : Fin n S s a b c w N B0 R T L) {col E : Nat} (hE : ∀ j, j < L.length → bB N B0 j ≤ E) (hcol : col < w) (hN : N < 1000) (h0 : ρ[0]? = some (some (.ref s))) (h3 : ρ[3]? = some (some (.int (col : Nat)))) (hρ : 10 < ρ.length)
    (hQ : ∀ (X : Store) (r : Nat) (zs : List Int), (S ++ X)[r]? = some (.lst (zs.map .int)) → (∀ z ∈ zs, 0 < z ∧ z.natAbs ≤ E) → (zs = [] → col ∉ L) → Q (.ref r) (S ++ X)) :
    PM (eComp [9, 10] (iZip (eMeth Γ (CC (k + 1)) "form" (eSlot 0) aNil) (eUn (oFld Γ "leading") (eSlot 0))) (.many [9, 10]) (tCmp (cOwn Γ (CC (k + 1)) "__eq__" cEq) (eSlot 10) (eSlot 3)) (eOp oIx (eSlot 9) (eSlot 3)) ρ) S Q := by
  have big := sizeLine_big
  refine PM_fltI ?_
  rw [PM_zip, PM_meth, PM_slot h0, PM_clsR f.st.ob rfl]
  refine ⟨(8, 1), rfl, ?_⟩
  rw [PM_aNil]
  refine ⟨rfl, m_form f.st (by rw [f.lR]; exact f.le) fun ds ht hb => ?_⟩
  have f1 := f.st.ap [.lst ds]
  rw [rd_L f1 h0, PM_seqL get_last, PM_seqL f1.rc]
  refine ⟨?_, fun X => ⟨get_ap get_last, get_ap f1.rc⟩, fun j acc => ∃ zs : List Int, acc = zs.map .int ∧ (∀ z ∈ zs, 0 < z ∧ z.natAbs ≤ E) ∧ (zs = [] → ∀ i, i < j → L[i]? ≠ some col), ⟨[], rfl, by simp, fun _ i hi => by omega⟩, ?_, ?_⟩
  · show (zipL _ _).length < _
    rw [zipL_length, List.length_map]
    have := f.le
    omega
  · rintro j d acc hj ⟨zs, rfl, g, gn⟩
    obtain ⟨x, y, h4, h5, rfl⟩ := zip_at hj
    rw [List.getElem?_map] at h5
    obtain ⟨at_, h6, rfl⟩ := Option.map_eq_some_iff.mp h5
    obtain ⟨r, xs, rfl, h7, h8⟩ := ht.2 j x h4
    have hjL : j < L.length := (List.getElem?_eq_some_iff.mp h6).1
    rw [List.getElem?_take, if_pos hjL] at h7
    refine ⟨(((ρ.set 10 none).set 9 none).set 9 (some (.ref r))).set 10 (some (.int (at_ : Nat))), rfl, ?_⟩
    have e9 : ((((ρ.set 10 none).set 9 none).set 9 (some (.ref r))).set 10 (some (.int (at_ : Nat))))[9]? = some (some (.ref r)) := by
      rw [List.getElem?_set_ne (by omega), List.getElem?_set_self (by simp; omega)]
    have e10 : ((((ρ.set 10 none).set 9 none).set 9 (some (.ref r))).set 10 (some (.int (at_ : Nat))))[10]? = some (some (.int (at_ : Nat))) := by
      rw [List.getElem?_set_self (by simp; omega)]
    have e3 : ((((ρ.set 10 none).set 9 none).set 9 (some (.ref r))).set 10 (some (.int (at_ : Nat))))[3]? = some (some (.int (col : Nat))) := by
      rw [List.getElem?_set_ne (by omega), List.getElem?_set_ne (by omega), List.getElem?_set_ne (by omega), List.getElem?_set_ne (by omega)]; exact h3
    rw [PM_tCmp, PM_slot e10, PM_slot e3, own_int, PM_eqi]
    by_cases hz : (at_ : Int) = (col : Int)
    · have hac : at_ = col := by omega
      subst hac
      refine ⟨rfl, fun _ => ?_, fun z => by simp at z⟩
      obtain ⟨l1, l2, _⟩ := f.ld j at_ h6
      have l3 := hE j hjL
      have ex : (xs.map D.int)[at_]? = some (.int (ent R j at_)) := by
        have : at_ < xs.length := by rw [f.wR.at h7]; exact hcol
        rw [List.getElem?_map, ent_of h7, List.getD_eq_getElem?_getD, List.getElem?_eq_getElem this]; rfl
      rw [PM_eOp, PM_slot e9, PM_slot e3, PM_ixL (get_ap h8)]
      refine ⟨_, atI_nat ex, rfl, zs ++ [ent R j at_], by rw [List.map_append]; rfl, fun z hz' => ?_, fun h => by simp at h⟩
      rcases List.mem_append.mp hz' with q | q
      · exact g z q
      · cases List.mem_singleton.mp q
        exact ⟨l1, by omega⟩
    · refine ⟨rfl, fun z => by simp at z; omega, fun _ => ⟨zs, rfl, g, fun h i hi e => ?_⟩⟩
      by_cases hij : i = j
      · subst hij
        rw [h6] at e; cases e; exact hz rfl
      · exact gn h i (by omega) e
  · rintro acc ⟨zs, rfl, g, gn⟩
    rw [List.append_assoc]
    have : (S ++ ([Cell.lst ds] ++ [Cell.lst (zs.map .int)]))[(S ++ [Cell.lst ds]).length]? = some (.lst (zs.map .int)) := by rw [← List.append_assoc]; exact get_last
    refine hQ _ _ zs this g fun h hm => ?_
    obtain ⟨i, hi, e⟩ := List.getElem_of_mem hm
    have h9 : (zipL ds (L.map fun n => D.int (n : Nat))).length = L.length := by
      rw [zipL_length, List.length_map, ht.1, List.length_take]
      have := f.lR
      have := f.le
      omega
    exact gn h i (by rw [h9]; exact hi) (by rw [List.getElem?_eq_getElem hi, e])
/-- the steps ahead of that column -/
theorem fr_ahead (f : Fin n S s a b c w N B0 R T L) {col : Nat} (hN : N < 1000) (h0 : ρ[0]? = some (some (.ref s))) (h3 : ρ[3]? = some (some (.int (col : Nat)))) (hρ : 10 < ρ.length)
    (hQ : ∀ (X : Store) (r : Nat) (js : List Nat), (S ++ X)[r]? = some (.lst (js.map natD)) → S.length ≤ r → js.length ≤ L.length → (∀ j ∈ js, ∃ at_, L[j]? = some at_ ∧ at_ < col) → Q (.ref r) (S ++ X)) :
    PM (eComp [8, 10] (iEnum' (eUn (oFld Γ "leading") (eSlot 0))) (.many [8, 10]) (tCmp cLt (eSlot 10) (eSlot 3)) (eSlot 8) ρ) S Q := by
  have big := sizeLine_big
  refine PM_fltI ?_
  rw [PM_enum, rd_L f.st h0, PM_seqL f.st.rc]
  refine ⟨?_, fun X => get_ap f.st.rc, fun j acc => ∃ js : List Nat, acc = js.map natD ∧ js.length ≤ j ∧ ∀ j ∈ js, ∃ at_, L[j]? = some at_ ∧ at_ < col, ⟨[], rfl, by simp, by simp⟩, ?_, ?_⟩
  · show (enumL _).length < _
    rw [enum_len, List.length_map]
    have := f.le
    omega
  · rintro j d acc hj ⟨js, rfl, gl, g⟩
    obtain ⟨u, hu, rfl⟩ := enum_at hj
    rw [List.getElem?_map] at hu
    obtain ⟨at_, h6, rfl⟩ := Option.map_eq_some_iff.mp hu
    refine ⟨(((ρ.set 10 none).set 8 none).set 8 (some (.int (j : Nat)))).set 10 (some (.int (at_ : Nat))), rfl, ?_⟩
    have e8 : ((((ρ.set 10 none).set 8 none).set 8 (some (.int (j : Nat)))).set 10 (some (.int (at_ : Nat))))[8]? = some (some (.int (j : Nat))) := by
      rw [List.getElem?_set_ne (by omega), List.getElem?_set_self (by simp; omega)]
    have e10 : ((((ρ.set 10 none).set 8 none).set 8 (some (.int (j : Nat)))).set 10 (some (.int (at_ : Nat))))[10]? = some (some (.int (at_ : Nat))) := by
      rw [List.getElem?_set_self (by simp; omega)]
    have e3 : ((((ρ.set 10 none).set 8 none).set 8 (some (.int (j : Nat)))).set 10 (some (.int (at_ : Nat))))[3]? = some (some (.int (col : Nat))) := by
      rw [List.getElem?_set_ne (by omega), List.getElem?_set_ne (by omega), List.getElem?_set_ne (by omega), List.getElem?_set_ne (by omega)]; exact h3
    rw [PM_tCmp, PM_slot e10, PM_slot e3, PM_lt]
    refine ⟨rfl, fun z => ?_, fun _ => ⟨js, rfl, by omega, g⟩⟩
    have z := of_decide_eq_true z
    rw [PM_slot e8]
    refine ⟨rfl, js ++ [j], by rw [List.map_append]; rfl, by simp; omega, fun i hi => ?_⟩
    rcases List.mem_append.mp hi with q | q
    · exact g i q
    · cases List.mem_singleton.mp q
      exact ⟨at_, h6, by omega⟩
  · rintro acc ⟨js, rfl, gl, g⟩
    rw [enum_len, List.length_map] at gl
    exact hQ _ _ js get_last (Nat.le_refl _) gl g
end


section
variable {k n s a b c w N B0 : Nat} {S : Store} {ρ : En} {Q : D → Store → Prop} {R T : List (List Int)} {L : List Nat}
theorem drop_int {i : Int} {X : Store} : dropR S (.int i) (S ++ X) = S := dropR_pure (by simp) trivial
theorem sum_abs {B : Nat} : ∀ {zs : List Int}, (∀ z ∈ zs, z.natAbs ≤ B) → zs.sum.natAbs ≤ zs.length * B
  | [], _ => by simp
  | z :: zs, h => by
    have h1 := sum_abs (zs := zs) fun x hx => h x (by simp [hx])
    have h2 := h z (by simp)
    rw [List.sum_cons, List.length_cons, Nat.add_mul, Nat.one_mul]
    have := Int.natAbs_add_le z zs.sum
    omega
theorem zw_abs {A B : Nat} : ∀ {xs ys : List Int}, (∀ x ∈ xs, x.natAbs ≤ A) → (∀ y ∈ ys, y.natAbs ≤ B) → ∀ z ∈ List.zipWith (fun x y => x * y) xs ys, z.natAbs ≤ A * B
  | [], _, _, _, z, h => by simp at h
  | _ :: _, [], _, _, z, h => by simp at h
  | x :: xs, y :: ys, hx, hy, z, h => by
    rw [List.zipWith_cons_cons] at h
    rcases List.mem_cons.mp h with rfl | h
    · rw [Int.natAbs_mul]
      exact Nat.mul_le_mul (hx x (by simp)) (hy y (by simp))
    · exact zw_abs (fun x hx' => hx x (by simp [hx'])) (fun y hy' => hy y (by simp [hy'])) z h
abbrev rhoF (s rl w col : Nat) (ld : Option D) (bt : Int) (rt ra : Nat) (x8 x9 x10 x11 x12 x13 : Option D) : En := [some (.ref s), some (.ref rl), some (.int (w : Nat)), some (natD col), ld, some (.int bt), some (.ref rt), some (.ref ra), x8, x9, x10, x11, x12, x13, none]
theorem fr_loop (f : Fin n S s a b c w N B0 R T L) {rl col ra rt E eb kb Bb : Nat} {js : List Nat} {ld x8 x9 x10 x11 x12 x13 : Option D} {bt : Int} {ts : List Int} {U : RS → Prop} (hN : N < 1000) (hw9 : w < 1000) (hB0 : 1 ≤ B0) (hcol : col < w)
    (hra : S[ra]? = some (.lst (js.map natD))) (hjl : js.length ≤ L.length) (hjs : ∀ j ∈ js, ∃ at_, L[j]? = some at_ ∧ at_ < col) (hrt : S[rt]? = some (.lst (ts.map .int))) (hts : ts.length = w) (hts1 : ∀ t ∈ ts, t.natAbs ≤ 1) (htc : ts.getD col 0 ≠ 0)
    (hbt : 0 < bt) (hbb : bt.natAbs ≤ Bb) (hE : ∀ j, j < L.length → bB N B0 j ≤ E) (hE1 : 1 ≤ E) (hT : ((w + 1) * bB N B0 L.length) ^ L.length < 2 ^ kb) (hBk : Bb * E ^ L.length < 2 ^ kb) (hM : bB N B0 L.length < 2 ^ kb) (hkb2 : kb ≤ 10000000)
    (hU : ∀ X rt bt (ts : List Int) x8 x9 x10 x11, (S ++ X)[rt]? = some (.lst (ts.map .int)) → ts.length = w → (∀ t ∈ ts, t.natAbs ≤ ((w + 1) * bB N B0 L.length) ^ L.length) → ts.getD col 0 ≠ 0 → (ts.getD col 0).natAbs ≤ E ^ L.length → 0 < bt → bt.natAbs ≤ Bb * E ^ L.length →
      U (.nx (rhoF s rl w col ld bt rt ra x8 x9 x10 x11 x12 x13) (S ++ X))) :
    PZ (sFor (iSeq (eUn oRev (eSlot 7))) (.one 8) (sSeq (sAsg (gTupG [(gOne 9), (gOne 10)]) (eTup (aCons (eOp oIx (eUn (oFld Γ "rows") (eSlot 0)) (eSlot 8)) (aCons (eOp oIx (eUn (oFld Γ "leading") (eSlot 0)) (eSlot 8)) aNil))))
    (sSeq (sAsg (gOne 11) (eDrop (eUn fSum (eComp [14, 13] (iZip (eSlot 9) (eSlot 6)) (.many [14, 13]) tTrue (eOp oMul (eSlot 14) (eSlot 13))))))
    (sSeq (sAsg (gOne 6) (eComp [13] (iSeq (eSlot 6)) (.one 13) tTrue (eOp oMul (eOp oIx (eSlot 9) (eSlot 10)) (eSlot 13))))
    (sSeq (sAsg (gSubS (eSlot 6) (eSlot 10)) (eUn oNeg (eSlot 11)))
    (sAsg (gOne 5) (eOp oMul (eSlot 5) (eOp oIx (eSlot 9) (eSlot 10))))))))) (rhoF s rl w col ld bt rt ra x8 x9 x10 x11 x12 x13) S U := by
  have big := sizeLine_big
  have hMp : 1 ≤ bB N B0 L.length := bB_pos hB0 _
  have hwM : 1 ≤ (w + 1) * bB N B0 L.length := Nat.mul_pos (by omega) hMp
  rw [PZ_for, PM_iSeq, PM_eUn, PM_slot (i := 7) (d := .ref ra) rfl, PM_revL hra, ← List.map_reverse, PM_seqL get_last]
  refine PZ_go (fun j ρ S' => j ≤ js.length ∧ ∃ (X : Store) (rt : Nat) (bt : Int) (ts : List Int) (x8 x9 x10 x11 : Option D), S' = (S ++ [.lst (js.reverse.map natD)]) ++ X ∧ ρ = rhoF s rl w col ld bt rt ra x8 x9 x10 x11 x12 x13 ∧ S'[rt]? = some (.lst (ts.map .int)) ∧ ts.length = w ∧ (∀ t ∈ ts, t.natAbs ≤ ((w + 1) * bB N B0 L.length) ^ j) ∧ ts.getD col 0 ≠ 0 ∧ (ts.getD col 0).natAbs ≤ E ^ j ∧ 0 < bt ∧ bt.natAbs ≤ Bb * E ^ j)
    ⟨Nat.zero_le _, [], rt, bt, ts, _, _, _, _, by simp, rfl, get_ap hrt, hts, by simpa using hts1, htc, ?_, hbt, by simpa using hbb⟩ ?_ ?_
  · have := hts1 (ts.getD col 0) (by rw [List.getD_eq_getElem?_getD, List.getElem?_eq_getElem (by omega)]; exact List.getElem_mem _)
    simpa using this
  · rintro i v ρ S' hi ⟨hij, X, rt, bt, ts, x8, x9, x10, x11, rfl, rfl, hrt, hts, b1, b2, b3, b4, b5⟩
    rw [List.getElem?_map] at hi
    obtain ⟨j, hj, rfl⟩ := Option.map_eq_some_iff.mp hi
    have hil : i < js.length := by have := (List.getElem?_eq_some_iff.mp hj).1; simpa using this
    have hjm : j ∈ js := by have := List.mem_of_getElem? hj; simpa using this
    obtain ⟨at_, hat, hac⟩ := hjs j hjm
    have hjL : j < L.length := (List.getElem?_eq_some_iff.mp hat).1
    obtain ⟨d1, d2, d3⟩ := f.ld j at_ hat
    obtain ⟨row, r1, r2, r3⟩ := f.row (j := j) (by have := f.le; omega)
    have fX := (f.st.ap [.lst (js.reverse.map natD)]).ap X
    have ok : ((S ++ [Cell.lst (js.reverse.map natD)]) ++ X)[S.length]? = some (.lst (js.reverse.map natD)) := get_ap get_last
    refine ⟨ok, _, rfl, ?_⟩
    change PZ _ (rhoF s rl w col ld bt rt ra (some (.int (j : Nat))) x9 x10 x11 x12 x13) _ _
    have pT : ((w + 1) * bB N B0 L.length) ^ i ≤ ((w + 1) * bB N B0 L.length) ^ L.length := Nat.pow_le_pow_right hwM (by omega)
    have pB : Bb * E ^ i ≤ Bb * E ^ L.length := Nat.mul_le_mul_left _ (Nat.pow_le_pow_right hE1 (by omega))
    generalize hS1 : (S ++ [Cell.lst (js.reverse.map natD)]) ++ X = S1 at fX hrt ok ⊢
    obtain ⟨q, q1, q2, q3⟩ := rd_row (ρ := rhoF s rl w col ld bt rt ra (some (.int (j : Nat))) x9 x10 x11 x12 x13) fX (i := 0) (j := 8) rfl rfl r1
    have elead : (L.map fun n => D.int (n : Nat))[j]? = some (.int (at_ : Nat)) := by rw [List.getElem?_map, hat]; rfl
    have ent1 : row[at_]? = some (ent R j at_) := by
      rw [ent_of r1, List.getD_eq_getElem?_getD, List.getElem?_eq_getElem (by omega)]; rfl
    have ent2 : (row.map D.int)[at_]? = some (.int (ent R j at_)) := by rw [List.getElem?_map, ent1]; rfl
    have hldM : (ent R j at_).natAbs ≤ bB N B0 L.length := f.eR j at_
    have hldE : (ent R j at_).natAbs ≤ E := Nat.le_trans d2 (hE j hjL)
    generalize hldv : ent R j at_ = lv at *
    rw [PZ_seq, PZ_asg, PM_eTup, PM_aCons, q3, PM_aCons, PM_eOp, rd_L fX rfl, PM_slot (i := 8) (d := .int (j : Nat)) rfl, PM_ixL fX.rc]
    refine ⟨_, atI_nat elead, ?_⟩
    rw [PM_aNil]
    refine ⟨by simp; omega, ?_⟩
    rw [PZ_tup rfl, PZ_allC, PZ_one, SQ_nx, PZ_allC, PZ_one, SQ_nx, PZ_allN, SQ_nx]
    change PZ _ (rhoF s rl w col ld bt rt ra (some (.int (j : Nat))) (some (.ref q)) (some (.int (at_ : Nat))) x11 x12 x13) _ _
    rw [PZ_seq, PZ_asg, PM_eDrop, PM_eUn]
    refine PM_zipc (fun x y => x * y) (pm_eq fun Q => PM_slot (i := 9) (d := .ref q) rfl) (pm_eq fun Q => PM_slot (i := 6) (d := .ref rt) rfl) (.inl ⟨q, rfl, q1⟩) (.inl ⟨rt, rfl, hrt⟩) (by omega) (fun u hu v hv acc => ?_) ?_
    · simp only [PM_ret, PM_bind, PM_guard, PM_slot', PM_eC, PM_eOp, PM_eUn, PM_eT, PM_tV, PM_eAnd, PM_eOr, PM_tAnd, PM_tOr, PM_tNot, PM_eIf, PM_tIf, PM_tCmp, PM_tChn, PM_last, PM_more, PM_aNil, PM_aCons, PM_eTup, PM_eLst, PM_eCall, PM_eNew, PM_eDrop, PM_add, PM_sub, PM_mul, PM_fdiv, PM_mod, PM_pow, PM_neg, PM_lt, PM_le, PM_gt, PM_ge, PM_eqi, PM_nei, own_int, own_bl, own_tup, own_str, PM_isNon, PM_isBl, PM_isnot, PM_tbl, PM_tint, PM_tnon, PM_ttup, PM_lenT, PM_lenF, PM_int, PM_abs, PM_tupT, PM_lstF, PM_ixT, PM_eM, PM_iSeq, PM_seqT, PM_seqF, PM_rng1, PM_rng2, PM_enum, PZ_bind, PZ_nx, PZ_bk, PZ_ct, PZ_rt, SQ_nx, SQ_rt, SQ_ct, SQ_bk, TQ_nx, TQ_ct, TQ_bk, TQ_rt, PZ_seq, PZ_ret, PZ_drop, PZ_if, PZ_asg, PZ_one, PZ_par, PZ_allN, PZ_allC, PZ_tup, PZ_sub, PZ_fld, PZ_for, List.getElem?_cons_zero, List.getElem?_cons_succ, Option.some.injEq, exists_eq_left', exists_eq_left, List.set_cons_zero, List.set_cons_succ, setAll, List.length_cons, List.length_nil, List.map_cons, List.map_nil, Nat.reduceAdd, Nat.reduceSub, List.replicate, List.cons_append, List.nil_append, true_and, and_true, Bool.not_true, Bool.not_false, if_true, if_false, Bool.false_eq_true, D.int.injEq, D.isNon, D.isBl, Nat.reduceLeDiff, dropR_len, Nat.le_refl, ite_true, ite_false, reduceCtorEq, List.foldr_cons, List.foldr_nil]
      exact mulOk_b hkb2 (by have := r3 u hu; omega) (by have := b1 v hv; omega)
    · rw [PM_sumL get_last (asInts_int _), drop_int]
      have hsum : (List.zipWith (fun x y => x * y) row ts).sum.natAbs ≤ w * (bB N B0 L.length * ((w + 1) * bB N B0 L.length) ^ i) := by
        have := sum_abs (zw_abs r3 b1)
        rw [List.length_zipWith, r2, hts, Nat.min_self] at this
        exact this
      generalize hsv : (List.zipWith (fun x y => x * y) row ts).sum = told at hsum
      rw [PZ_one, SQ_nx]
      change PZ _ (rhoF s rl w col ld bt rt ra (some (.int (j : Nat))) (some (.ref q)) (some (.int (at_ : Nat))) (some (.int told)) x12 x13) _ _
      rw [PZ_seq, PZ_asg]
      refine PM_mapc (fun t => .int (lv * t)) (pm_eq fun Q => PM_slot (i := 6) (d := .ref rt) rfl) (.inl ⟨rt, rfl, hrt⟩) (by omega) (fun t ht acc => ?_) ?_
      · rw [List.foldr_cons, List.foldr_nil, PM_eOp, PM_eOp, PM_slot (i := 9) (d := .ref q) rfl, PM_slot (i := 10) (d := .int (at_ : Nat)) rfl, PM_ixL (get_ap q1)]
        refine ⟨_, atI_nat ent2, ?_⟩
        rw [PM_slot (i := 13) (d := .int t) rfl, PM_mul]
        exact ⟨mulOk_b hkb2 (by omega) (by have := b1 t ht; omega), rfl, rfl⟩
      · have em : ts.map (fun t => D.int (lv * t)) = (ts.map (lv * ·)).map .int := by rw [List.map_map]; rfl
        rw [em, PZ_one, SQ_nx]
        change PZ _ (rhoF s rl w col ld bt S1.length ra (some (.int (j : Nat))) (some (.ref q)) (some (.int (at_ : Nat))) (some (.int told)) x12 x13) _ _
        rw [PZ_seq, PZ_asg, PM_eUn, PM_slot (i := 11) (d := .int told) rfl, PM_neg, PZ_sub, PM_slot (i := 6) (d := .ref S1.length) rfl, PM_slot (i := 10) (d := .int (at_ : Nat)) rfl, PM_putL get_last (ixN_nat (by simp; omega)), SQ_nx, set_last]
        have es : ((ts.map (lv * ·)).map D.int).set at_ (.int (-told)) = ((ts.map (lv * ·)).set at_ (-told)).map .int := by rw [List.map_set]
        rw [es, PZ_asg, PM_eOp, PM_slot (i := 5) (d := .int bt) rfl, PM_eOp, PM_slot (i := 9) (d := .ref q) rfl, PM_slot (i := 10) (d := .int (at_ : Nat)) rfl, PM_ixL (get_ap q1)]
        refine ⟨_, atI_nat ent2, ?_⟩
        rw [PM_mul]
        refine ⟨mulOk_b hkb2 (by omega) (by omega), ?_⟩
        rw [PZ_one, TQ_nx]
        have gcol : ((ts.map (lv * ·)).set at_ (-told)).getD col 0 = lv * ts.getD col 0 := by
          rw [List.getD_eq_getElem?_getD, List.getElem?_set_ne (by omega), List.getElem?_map, List.getD_eq_getElem?_getD, List.getElem?_eq_getElem (by omega)]
          rfl
        have lv1 : lv.natAbs ≤ (w + 1) * bB N B0 L.length := Nat.le_trans hldM (Nat.le_mul_of_pos_left _ (by omega))
        refine ⟨by omega, X ++ [.lst (((ts.map (lv * ·)).set at_ (-told)).map .int)], _, _, (ts.map (lv * ·)).set at_ (-told), _, _, _, _, by rw [← hS1, List.append_assoc], rfl, get_last, by simp [hts], fun t ht => ?_, ?_, ?_, Int.mul_pos b4 d1, ?_⟩
        · rw [Nat.pow_succ, Nat.mul_comm]
          rcases List.mem_or_eq_of_mem_set ht with z | z
          · obtain ⟨t0, ht0, rfl⟩ := List.mem_map.mp z
            rw [Int.natAbs_mul]
            exact Nat.mul_le_mul lv1 (b1 t0 ht0)
          · rw [z, Int.natAbs_neg]
            refine Nat.le_trans hsum ?_
            rw [← Nat.mul_assoc]
            exact Nat.mul_le_mul_right _ (Nat.mul_le_mul_right _ (by omega))
        · rw [gcol]; exact Int.mul_ne_zero (by omega) b2
        · rw [gcol, Int.natAbs_mul, Nat.pow_succ, Nat.mul_comm]
          exact Nat.mul_le_mul b3 hldE
        · rw [Int.natAbs_mul, Nat.pow_succ, ← Nat.mul_assoc]
          exact Nat.mul_le_mul b5 hldE
  · rintro ρ S' ⟨hij, X, rt, bt, ts, x8, x9, x10, x11, rfl, rfl, hrt, hts, b1, b2, b3, b4, b5⟩
    rw [List.length_map, List.length_reverse] at b1 b3 b5
    refine ⟨get_ap get_last, ?_⟩
    rw [List.append_assoc] at hrt ⊢
    exact hU _ rt bt ts x8 x9 x10 x11 hrt hts (fun t ht => Nat.le_trans (b1 t ht) (Nat.pow_le_pow_right hwM hjl)) b2 (Nat.le_trans b3 (Nat.pow_le_pow_right hE1 hjl)) b4 (Nat.le_trans b5 (Nat.mul_le_mul_left _ (Nat.pow_le_pow_right hE1 hjl)))
end


section
variable {k n s a b c w N B0 : Nat} {S : Store} {ρ : En} {Q : D → Store → Prop} {R T : List (List Int)} {L : List Nat}
theorem below_ints {m : Nat} : ∀ zs : List Int, belowDs m (zs.map .int)
  | [] => trivial
  | _ :: zs => ⟨trivial, below_ints zs⟩
theorem drop_ints {zs : List Int} {X : Store} : dropR S (.tup (zs.map .int)) (S ++ X) = S := dropR_pure (by simp) (below_ints zs)
theorem fdiv_abs2 {x l : Int} (hl : l ≠ 0) (hp : 0 < l) : (x.fdiv l).natAbs ≤ x.natAbs := fdiv_abs hp
theorem m_frac (f : Fin n S s a b c w N B0 R T L) {ls : List Int} {rl Lb E eb kb : Nat} (hls : S[rl]? = some (.lst (ls.map .int))) (hl : ls.length = w) (hnz : ∃ x ∈ ls, x ≠ 0) (hLb : ∀ x ∈ ls, x.natAbs ≤ Lb) (hN : N < 1000) (hw9 : w < 1000) (hB0 : 1 ≤ B0)
    (hE : ∀ j, j < L.length → bB N B0 j ≤ E) (hE1 : 1 ≤ E) (heE : E ^ L.length < 2 ^ eb) (heb : eb < 9000) (hT : ((w + 1) * bB N B0 L.length) ^ L.length < 2 ^ kb) (hBk : (E + 2 * Lb) * E ^ L.length < 2 ^ kb) (hM : bB N B0 L.length < 2 ^ kb) (hLk : Lb < 2 ^ kb) (hkb2 : kb ≤ 10000000)
    (hQ : ∀ (ts : List Int) (bt : Int), ts.length = w → (∀ t ∈ ts, t.natAbs < 2 ^ kb) → bt.natAbs < 2 ^ kb → 0 < bt → (bt.natAbs ≤ E * E ^ L.length ∨ ∃ col, col < w ∧ col ∉ L ∧ bt.natAbs ≤ 2 * Lb * E ^ L.length) → Q (.tup [.tup (ts.map .int), .int bt]) S) :
    PM ((CC (k + 2)).fn 41 [.ref s, .ref rl, .int (w : Nat)]) S Q := by
  refine PM_fn rfl rfl rfl ?_
  unfold b_fractions_by
  change PZ _ [some (.ref s), some (.ref rl), some (.int (w : Nat)), none, none, none, none, none, none, none, none, none, none, none, none] S _
  have big := sizeLine_big
  have hMp : 1 ≤ bB N B0 L.length := bB_pos hB0 _
  rw [PZ_seq, PZ_asg]
  refine fr_col hls hl hnz hw9 rfl rfl (by simp) fun X1 col hcol hc0 => ?_
  rw [PZ_one, SQ_nx]
  change PZ _ [some (.ref s), some (.ref rl), some (.int (w : Nat)), some (.int (col : Nat)), none, none, none, none, none, none, none, none, none, none, none] _ _
  have f1 : Fin n (S ++ X1) s a b c w N B0 R T L := { f with st := f.st.ap X1 }
  rw [PZ_seq, PZ_asg]
  refine fr_lead (k := k) f1 hE hcol hN rfl rfl (by simp) fun X2 r zs hr hz hzn => ?_
  rw [PZ_one, SQ_nx]
  change PZ _ [some (.ref s), some (.ref rl), some (.int (w : Nat)), some (.int (col : Nat)), some (.ref r), none, none, none, none, none, none, none, none, none, none] _ _
  rw [List.append_assoc] at hr ⊢
  generalize hX12 : X1 ++ X2 = X12 at hr ⊢
  have hls2 := get_ap (X := X12) hls
  have elc : (ls.map D.int)[col]? = some (.int (ls.getD col 0)) := by rw [List.getElem?_map, List.getD_eq_getElem?_getD, List.getElem?_eq_getElem (by omega)]; rfl
  have hlc : (ls.getD col 0).natAbs ≤ Lb := hLb _ (by rw [List.getD_eq_getElem?_getD, List.getElem?_eq_getElem (by omega)]; exact List.getElem_mem _)
  have bot : PM (eIf (tV (eSlot 4)) (eOp oIx (eSlot 4) (eC (.int 0))) (eOp oMul (eC (.int 2)) (eUn fAbs (eOp oIx (eSlot 1) (eSlot 3)))) [some (.ref s), some (.ref rl), some (.int (w : Nat)), some (.int (col : Nat)), some (.ref r), none, none, none, none, none, none, none, none, none, none]) (S ++ X12)
      fun d S' => S' = S ++ X12 ∧ ∃ bt : Int, d = .int bt ∧ 0 < bt ∧ (bt.natAbs ≤ E ∨ (col ∉ L ∧ bt.natAbs ≤ 2 * Lb)) := by
    rw [PM_eIf, PM_tV, PM_slot (i := 4) (d := .ref r) rfl, PM_tlst hr]
    cases zs with
    | nil =>
      simp only [List.map_nil, List.isEmpty_nil, Bool.not_true, Bool.false_eq_true, if_false]
      rw [PM_eOp, PM_eC, PM_eUn, PM_eOp, PM_slot (i := 1) (d := .ref rl) rfl, PM_slot (i := 3) (d := .int (col : Nat)) rfl, PM_ixL hls2]
      refine ⟨_, atI_nat elc, ?_⟩
      rw [PM_abs, PM_mul]
      refine ⟨.inl ⟨by omega, by omega⟩, rfl, _, rfl, ?_, .inr ⟨hzn rfl, ?_⟩⟩
      · split <;> omega
      · split <;> omega
    | cons z zs =>
      simp only [List.map_cons, List.isEmpty_cons, Bool.not_false, if_true]
      rw [PM_eOp, PM_slot (i := 4) (d := .ref r) rfl, PM_eC, PM_ixL hr]
      have := hz z (by simp)
      exact ⟨_, atI_nat (n := 0) (by simp), rfl, z, rfl, this.1, .inl this.2⟩
  rw [PZ_seq, PZ_asg]
  refine bot.imp ?_
  rintro _ _ ⟨rfl, bt, rfl, hbt, hbb⟩
  rw [PZ_one, SQ_nx]
  change PZ _ [some (.ref s), some (.ref rl), some (.int (w : Nat)), some (.int (col : Nat)), some (.ref r), some (.int bt), none, none, none, none, none, none, none, none, none] _ _
  rw [PZ_seq, PZ_asg, PM_eOp, PM_eLst, PM_aCons, PM_eC, PM_aNil]
  refine ⟨by simp; omega, ?_⟩
  rw [PM_slot (i := 2) (d := .int (w : Nat)) rfl, PM_mulL get_last]
  refine ⟨⟨by omega, by omega, by simp; omega⟩, ?_⟩
  rw [rep_int, PZ_one, SQ_nx, List.append_assoc, List.append_assoc]
  generalize hX3 : X12 ++ [Cell.lst [.int 0]] = X3
  rw [← List.append_assoc]
  change PZ _ [some (.ref s), some (.ref rl), some (.int (w : Nat)), some (.int (col : Nat)), some (.ref r), some (.int bt), some (.ref (S ++ X3).length), none, none, none, none, none, none, none, none] _ _
  rw [PZ_seq, PZ_asg, PM_eC, PZ_sub, PM_slot (i := 6) (d := .ref (S ++ X3).length) rfl, PM_slot (i := 3) (d := .int (col : Nat)) rfl, PM_putL get_last (ixN_nat (by simp; exact hcol)), SQ_nx, set_last]
  have es : ((List.replicate w (0 : Int)).map D.int).set col (.int 1) = ((List.replicate w (0 : Int)).set col 1).map .int := by rw [List.map_set]
  rw [es, List.append_assoc]
  have hts0 : (S ++ (X3 ++ [Cell.lst (((List.replicate w (0 : Int)).set col 1).map .int)]))[(S ++ X3).length]? = some (.lst (((List.replicate w (0 : Int)).set col 1).map .int)) := by rw [← List.append_assoc]; exact get_last
  generalize hX4 : X3 ++ [Cell.lst (((List.replicate w (0 : Int)).set col 1).map .int)] = X4 at hts0 ⊢
  have f4 : Fin n (S ++ X4) s a b c w N B0 R T L := { f with st := f.st.ap X4 }
  rw [PZ_seq, PZ_asg]
  refine fr_ahead f4 hN rfl rfl (by simp) fun X5 ra js hra hrl hjl hjs => ?_
  rw [PZ_one, SQ_nx]
  have hts5 := get_ap (X := X5) hts0
  rw [List.append_assoc] at hra hts5 ⊢
  generalize hX6 : X4 ++ X5 = X6 at hra hts5 ⊢
  have f6 : Fin n (S ++ X6) s a b c w N B0 R T L := { f with st := f.st.ap X6 }
  change PZ _ (rhoF s rl w col (some (.ref r)) bt (S ++ X3).length ra none none none none none none) _ _
  rw [PZ_seq]
  refine fr_loop (eb := 0) f6 hN hw9 hB0 hcol hra hjl hjs hts5 (by simp) (fun t ht => ?_) ?_ hbt (Nat.le_refl _) hE hE1 hT (Nat.lt_of_le_of_lt (Nat.mul_le_mul_right _ (by rcases hbb with h | h <;> omega)) hBk) hM hkb2 fun X7 rt bt2 ts x8 x9 x10 x11 hrt htl t1 t2 t3 t4 t5 => ?_
  · rcases List.mem_or_eq_of_mem_set ht with z | z
    · rw [(List.mem_replicate.mp z).2]; simp
    · rw [z]; simp
  · rw [List.getD_eq_getElem?_getD, List.getElem?_set_self (by simp; exact hcol)]; simp
  · rw [SQ_nx]
    rw [List.append_assoc] at hrt ⊢
    generalize hX8 : X6 ++ X7 = X8 at hrt ⊢
    rw [PZ_seq, PZ_asg, PM_slot (i := 5) (d := .int bt2) rfl, PZ_one, SQ_nx]
    change PZ _ [some (.ref s), some (.ref rl), some (.int (w : Nat)), some (natD col), some (.ref r), some (.int bt2), some (.ref rt), some (.ref ra), x8, x9, x10, x11, some (.int bt2), none, none] _ _
    rw [PZ_seq, PZ_for, PM_iSeq, PM_slot (i := 6) (d := .ref rt) rfl, PM_seqL hrt]
    refine PZ_go (fun j ρ S' => S' = S ++ X8 ∧ ∃ (g : Int) (x13 : Option D), ρ = [some (.ref s), some (.ref rl), some (.int (w : Nat)), some (natD col), some (.ref r), some (.int bt2), some (.ref rt), some (.ref ra), x8, x9, x10, x11, some (.int g), x13, none] ∧ (0 < g ∧ g ∣ bt2) ∧ ∀ i t, i < j → ts[i]? = some t → g ∣ t) ⟨rfl, bt2, none, rfl, ⟨t4, Int.dvd_refl _⟩, fun i t hi => by omega⟩ ?_ ?_
    · rintro j d ρ S' hj ⟨rfl, g, x13, rfl, ⟨hg, hgb⟩, hd⟩
      rw [List.getElem?_map] at hj
      obtain ⟨t, ht, rfl⟩ := Option.map_eq_some_iff.mp hj
      refine ⟨hrt, _, rfl, ?_⟩
      rw [PZ_asg, PM_eCall, PM_aCons, PM_slot (i := 12) (d := .int g) rfl, PM_aCons, PM_slot (i := 13) (d := .int t) rfl, PM_aNil]
      refine ⟨rfl, (m_gcd (k := k) g t).imp ?_⟩
      rintro _ S' ⟨rfl, v, rfl, v1, v2, v3⟩
      rw [PZ_one, TQ_nx]
      refine ⟨rfl, v, _, rfl, ⟨by have := v3 (by omega); omega, Int.dvd_trans v1 hgb⟩, fun i t' hi ht' => ?_⟩
      by_cases hij : i = j
      · subst hij
        rw [ht] at ht'; cases ht'
        exact v2
      · exact Int.dvd_trans v1 (hd i t' (by omega) ht')
    · rintro ρ S' ⟨rfl, g, x13, rfl, ⟨hg, hgb⟩, hd⟩
      refine ⟨hrt, ?_⟩
      rw [List.length_map] at hd
      have tcol : ts[col]? = some (ts.getD col 0) := by rw [List.getD_eq_getElem?_getD, List.getElem?_eq_getElem (by omega)]; rfl
      have gle : g.natAbs ≤ (ts.getD col 0).natAbs := by
        have := hd col _ (by omega) tcol
        exact Nat.le_of_dvd (by omega) (Int.natAbs_dvd_natAbs.mpr this)
      have dok : divOk g := divOk_b heb (by omega) (by omega)
      rw [SQ_nx, PZ_ret, PM_eTup, PM_aCons, PM_eDrop, PM_eUn]
      refine PM_mapc (fun t => .int (t.fdiv g)) (pm_eq fun Q => PM_slot (i := 6) (d := .ref rt) rfl) (.inl ⟨rt, rfl, hrt⟩) (by omega) (fun t ht acc => ?_) ?_
      · rw [List.foldr_cons, List.foldr_nil, PM_eOp, PM_slot (i := 13) (d := .int t) rfl, PM_slot (i := 12) (d := .int g) rfl, PM_fdiv]
        exact ⟨dok, rfl, rfl⟩
      · have em : ts.map (fun t => D.int (t.fdiv g)) = (ts.map fun t => t.fdiv g).map .int := by rw [List.map_map]; rfl
        rw [em, PM_tupL get_last, drop_ints, PM_aCons, PM_eOp, PM_slot (i := 5) (d := .int bt2) rfl, PM_slot (i := 12) (d := .int g) rfl, PM_fdiv]
        refine ⟨dok, ?_⟩
        rw [PM_aNil]
        refine ⟨by simp; omega, ?_⟩
        show Q (.tup [.tup ((ts.map fun t => t.fdiv g).map .int), .int (bt2.fdiv g)]) (dropR S (.tup [.tup ((ts.map fun t => t.fdiv g).map .int), .int (bt2.fdiv g)]) (S ++ X8))
        have nd : dropR S (.tup [.tup ((ts.map fun t => t.fdiv g).map .int), .int (bt2.fdiv g)]) (S ++ X8) = S := dropR_pure (by simp) ⟨below_ints _, trivial, trivial⟩
        rw [nd]
        have hb1 : (bt2.fdiv g).natAbs ≤ bt2.natAbs := fdiv_abs (x := bt2) hg
        have hkk : bt.natAbs * E ^ L.length < 2 ^ kb := Nat.lt_of_le_of_lt (Nat.mul_le_mul_right _ (by rcases hbb with h | h <;> omega)) hBk
        refine hQ _ _ (by simp [htl]) (fun t ht => ?_) ?_ ?_ ?_
        · obtain ⟨t0, ht0, rfl⟩ := List.mem_map.mp ht
          have h1 := fdiv_abs (x := t0) hg
          have h2 := t1 t0 ht0
          omega
        · omega
        · obtain ⟨q, hq⟩ := hgb
          have hq0 : 0 < q := by
            rcases Int.lt_trichotomy q 0 with h | h | h
            · have := Int.mul_neg_of_pos_of_neg hg h
              omega
            · subst h; simp at hq; omega
            · exact h
          have : bt2.fdiv g = q := by
            rw [hq, Int.fdiv_eq_ediv_of_nonneg _ (by omega), Int.mul_ediv_cancel_left _ (by omega)]
          rw [this]; exact hq0
        · rcases hbb with h | ⟨h, h2⟩
          · exact .inl (Nat.le_trans hb1 (Nat.le_trans t5 (Nat.mul_le_mul_right _ h)))
          · exact .inr ⟨col, hcol, h, Nat.le_trans hb1 (Nat.le_trans t5 (Nat.mul_le_mul_right _ h2))⟩
end


section
variable {k n0 : Nat} {S S0 : Store} {ρ : En} {Q : D → Store → Prop}
theorem PZ_tupL {gs : List Gv} {ds : List D} {r : Nat} {U : RS → Prop} (h : S[r]? = some (.lst ds)) (hl : ds.length = gs.length) : PZ (gTupG gs (.ref r)) ρ S U ↔ PZ (gAll gs ds) ρ S U := by
  have e : gTupG gs (.ref r) ρ S = gAll gs ds ρ S := by
    unfold gTupG
    simp only [h, hl, if_true]
  unfold PZ
  rw [e]
/-- no list and no tuple -/
def ScalD : D → Prop
  | .non => True
  | .bl _ => True
  | .int _ => True
  | .str _ => True
  | .obj c xs => c < Γ.cls.length ∧ ∀ m, belowDs m xs
  | _ => False
def SeqD (S : Store) (d : D) (ds : List D) : Prop := d = .tup ds ∨ ∃ r, d = .ref r ∧ S[r]? = some (.lst ds)
/-- a value, and what as_tuples makes of it -/
inductive Fz (S : Store) : Nat → D → D → Prop
  | sc {n : Nat} {d : D} (h : ScalD d) : Fz S n d d
  | seq {n : Nat} {d : D} {ds vs : List D} (hd : SeqD S d ds) (hl : ds.length = vs.length) (hz : ds.length < 1000000) (h : ∀ (i : Nat) x v, ds[i]? = some x → vs[i]? = some v → Fz S n x v) : Fz S (n + 1) d (.tup vs)
theorem scal_isi {d : D} (h : ScalD d) : PM (fIsi Γ d (.tup [.ty "list", .ty "tuple"])) S Q ↔ Q (.bl false) S := by
  cases d with
  | non => exact PM_isiN (isT_two bs_NoneType_list bs_NoneType_tuple)
  | bl b => exact PM_isiB (isT_two bs_bool_list bs_bool_tuple)
  | int i => exact PM_isiI (isT_two bs_int_list bs_int_tuple)
  | str x => exact PM_isiS (isT_two bs_str_list bs_str_tuple)
  | obj c xs =>
    refine PM_isi (t := .c c) rfl ?_
    have hc : c < Γ.cls.length := h.1
    have e1 : isi1 Γ (.c c) (.ty "list") = some false := by
      show (if bTypes.contains "list" && decide (c < Γ.cls.length) then some false else none) = some false
      rw [decide_eq_true hc]; rfl
    have e2 : isi1 Γ (.c c) (.ty "tuple") = some false := by
      show (if bTypes.contains "tuple" && decide (c < Γ.cls.length) then some false else none) = some false
      rw [decide_eq_true hc]; rfl
    show isiAny Γ (.c c) [.ty "list", .ty "tuple"] = _
    unfold isiAny isiAny isiAny
    rw [e1, e2]; rfl
  | _ => exact h.elim
theorem seq_isi {d : D} {ds : List D} (h : SeqD S d ds) : PM (fIsi Γ d (.tup [.ty "list", .ty "tuple"])) S Q ↔ Q (.bl true) S := by
  rcases h with rfl | ⟨r, rfl, h⟩
  · exact PM_isiT (isT_two bs_tuple_list bs_tuple_tuple)
  · exact PM_isiL h (isT_two bs_list_list bs_list_tuple)
theorem seq_ix {d x : D} {ds : List D} {i : Nat} (h : SeqD S d ds) (hx : ds[i]? = some x) : PM (oIx d (.int (i : Nat))) S Q ↔ Q x S := by
  rcases h with rfl | ⟨r, rfl, h⟩
  · rw [PM_ixT]
    exact ⟨fun ⟨d, e, q⟩ => by rw [atI_nat hx] at e; cases e; exact q, fun q => ⟨_, atI_nat hx, q⟩⟩
  · rw [PM_ixL h]
    exact ⟨fun ⟨d, e, q⟩ => by rw [atI_nat hx] at e; cases e; exact q, fun q => ⟨_, atI_nat hx, q⟩⟩
theorem seq_len {d : D} {ds : List D} (h : SeqD S d ds) : PM (fLen d) S Q ↔ Q (.int ds.length) S := by
  rcases h with rfl | ⟨r, rfl, h⟩
  · exact PM_lenT
  · exact PM_lenL h
theorem SeqD.up {d : D} {ds : List D} (h : SeqD S0 d ds) (l : ∀ (r : Nat) (c : Cell), S0[r]? = some c → S[r]? = some c) : SeqD S d ds := by
  rcases h with rfl | ⟨r, rfl, h⟩
  · exact .inl rfl
  · exact .inr ⟨r, rfl, l r _ h⟩
theorem SeqD.inj {d : D} {ds es : List D} (h : SeqD S d ds) (h2 : SeqD S d es) : ds = es := by
  rcases h with rfl | ⟨r, rfl, h⟩
  · rcases h2 with h2 | ⟨_, h2, _⟩
    · cases h2; rfl
    · cases h2
  · rcases h2 with h2 | ⟨q, h2, h3⟩
    · cases h2
    · cases h2
      rw [h] at h3; cases h3; rfl
def ent3 (src : D) (i f : Nat) : Cell := .lst [src, .int (i : Nat), .ref f]
noncomputable abbrev tupW (k : Nat) : Sv := sWhile (tV (eSlot 1)) (sSeq (sAsg (gTupG [(gOne 3), (gOne 4), (gOne 5)]) (eOp oIx (eSlot 1) (eUn oNeg (eC (.int 1)))))
    (sIf (tCmp (cOwn Γ (CC k) "__eq__" cEq) (eSlot 4) (eUn fLen (eSlot 3))) (sSeq (sDrop (eM "list" mPop (eSlot 1) aNil))
    (sSeq (sAsg (gOne 2) (eUn fTup (eSlot 5)))
    (sIf (tV (eSlot 1)) (sDrop (eM "list" mAppend (eOp oIx (eOp oIx (eSlot 1) (eUn oNeg (eC (.int 1)))) (eC (.int 2))) (aCons (eSlot 2) aNil))) sNx))) (sIf (tV (eOp (fIsi Γ) (eOp oIx (eSlot 3) (eSlot 4)) (eTup (aCons (eC (.ty "list")) (aCons (eC (.ty "tuple")) aNil))))) (sSeq (sAsg (gSubS (eOp oIx (eSlot 1) (eUn oNeg (eC (.int 1)))) (eC (.int 1))) (eOp oAdd (eSlot 4) (eC (.int 1))))
    (sDrop (eM "list" mAppend (eSlot 1) (aCons (eLst (aCons (eOp oIx (eSlot 3) (eSlot 4)) (aCons (eC (.int 0)) (aCons (eLst aNil) aNil)))) aNil)))) (sSeq (sAsg (gSubS (eOp oIx (eSlot 1) (eUn oNeg (eC (.int 1)))) (eC (.int 1))) (eOp oAdd (eSlot 4) (eC (.int 1))))
    (sDrop (eM "list" mAppend (eSlot 5) (aCons (eOp oIx (eSlot 3) (eSlot 4)) aNil)))))))
abbrev rhoT (v : Option D) (l : Nat) (x2 x3 x4 x5 : Option D) : En := [v, some (.ref l), x2, x3, x4, x5]
theorem atI_m1 {xs : List D} {d : D} : atI (xs ++ [d]) (-1) = some d := by
  unfold atI ixN
  have h1 : ¬ (0 : Int) ≤ -1 := by omega
  have h3 : (-1 + ((xs.length : Int) + 1)).toNat = xs.length := by omega
  have h2 : (1 : Int) ≤ (xs.length : Int) + 1 := by omega
  simp only [h1, if_false]
  simp
  rw [if_pos h2, h3]
  simp
theorem last_ix {l : Nat} {base : List D} {d : D} (h : S[l]? = some (.lst (base ++ [d]))) (hl : ρ[1]? = some (some (.ref l))) : PM (eOp oIx (eSlot 1) (eUn oNeg (eC (.int 1))) ρ) S Q ↔ Q d S := by
  rw [PM_eOp, PM_slot hl, PM_eUn, PM_eC, PM_neg, PM_ixL h]
  exact ⟨fun ⟨d', e, q⟩ => by rw [atI_m1] at e; cases e; exact q, fun q => ⟨_, atI_m1, q⟩⟩

theorem trunc {xs : List D} {i : Nat} {d : D} (h : xs[i]? = some d) : xs.take (i + 1) = xs.take i ++ [d] := by rw [List.take_succ, h]; rfl
/-- the loop works a sequence through -/
theorem tup_go (h0 : ∀ (r : Nat) (c : Cell), S0[r]? = some c → r < n0) {nn : Nat} {d v : D} (hf : Fz S0 nn d v) : ∀ (ds vs : List D), SeqD S0 d ds → v = .tup vs → ∀ (m i : Nat) (S : Store) (base : List D) (l e f : Nat) (x0 x2 x3 x4 x5 : Option D) (U : RS → Prop), ds.length - i = m → i ≤ ds.length →
    (∀ (r : Nat) (c : Cell), S0[r]? = some c → S[r]? = some c) → S[l]? = some (.lst (base ++ [.ref e])) → S[e]? = some (ent3 d i f) → S[f]? = some (.lst (vs.take i)) → n0 ≤ l → n0 ≤ e → n0 ≤ f → l ≠ e → l ≠ f → e ≠ f → base.length + nn + 1 < 1000000 →
    (∀ (S' : Store) (x2 x3 x4 x5 : Option D), (∀ (r : Nat) (c : Cell), S0[r]? = some c → S'[r]? = some c) → Kp e f S S' → S'[e]? = some (ent3 d ds.length f) → S'[f]? = some (.lst vs) → PZ (tupW k) (rhoT x0 l x2 x3 x4 x5) S' U) → PZ (tupW k) (rhoT x0 l x2 x3 x4 x5) S U := by
  induction hf with
  | sc h =>
    intro ds vs hd
    rcases hd with rfl | ⟨r, rfl, _⟩
    · exact h.elim
    · exact h.elim
  | @seq nn d ds0 vs0 hd0 hl0 hds hall ih =>
    intro ds vs hd hv m
    have hv2 : vs = vs0 := by cases hv; rfl
    have hd2 := hd.inj hd0
    subst hv2 hd2
    have big := sizeLine_big
    induction m with
    | zero =>
      intro i S base l e f x0 x2 x3 x4 x5 U hm hi hS hl he hff g1 g2 g3 n1 n2 n3 hb hU
      have : i = ds.length := by omega
      subst this
      exact hU S x2 x3 x4 x5 hS Kp.refl he (by rw [hl0, List.take_length] at hff; exact hff)
    | succ m ihm =>
      intro i S base l e f x0 x2 x3 x4 x5 U hm hi hS hl he hff g1 g2 g3 n1 n2 n3 hb hU
      have hil : i < ds.length := by omega
      obtain ⟨x, hx⟩ : ∃ x, ds[i]? = some x := ⟨_, List.getElem?_eq_getElem hil⟩
      obtain ⟨w, hw⟩ : ∃ w, vs[i]? = some w := ⟨_, List.getElem?_eq_getElem (by omega)⟩
      have hxw := hall i x w hx hw
      have hdS := hd0.up hS
      refine PZ_while ?_
      rw [PM_tV, PM_slot (i := 1) (d := .ref l) rfl, PM_tlst hl]
      have e1 : (!(base ++ [D.ref e]).isEmpty) = true := by simp
      rw [e1, if_pos rfl, PZ_seq, PZ_asg, last_ix hl rfl, PZ_tupL he rfl, PZ_allC, PZ_one, SQ_nx, PZ_allC, PZ_one, SQ_nx, PZ_allC, PZ_one, SQ_nx, PZ_allN, SQ_nx]
      change PZ _ (rhoT x0 l x2 (some d) (some (.int (i : Nat))) (some (.ref f))) S _
      rw [PZ_if, PM_tCmp, PM_slot (i := 4) (d := .int (i : Nat)) rfl, PM_eUn, PM_slot (i := 3) (d := d) rfl, seq_len hdS, own_int, PM_eqi]
      have e2 : decide ((i : Int) = (ds.length : Int)) = false := by simp; omega
      rw [e2, if_neg (by simp), PZ_if, PM_tV, PM_eOp, PM_eOp, PM_slot (i := 3) (d := d) rfl, PM_slot (i := 4) (d := .int (i : Nat)) rfl, seq_ix hdS hx, PM_eTup, PM_aCons, PM_eC, PM_aCons, PM_eC, PM_aNil]
      refine ⟨by simp; omega, ?_⟩
      have S1e : (S.set e (ent3 d (i + 1) f))[e]? = some (ent3 d (i + 1) f) := set_self he
      have hp : ∀ (U : Unit → Store → Prop), PM (oPut (.ref e) (.int 1) (.int ((i + 1 : Nat) : Int))) S U ↔ U () (S.set e (ent3 d (i + 1) f)) := fun U => PM_putL he (ixN_nat (n := 1) (by simp))
      have S1l : (S.set e (ent3 d (i + 1) f))[l]? = some (.lst (base ++ [.ref e])) := get_set hl n1
      have S1f : (S.set e (ent3 d (i + 1) f))[f]? = some (.lst (vs.take i)) := get_set hff (Ne.symm n3)
      have S1S : ∀ (r : Nat) (c : Cell), S0[r]? = some c → (S.set e (ent3 d (i + 1) f))[r]? = some c := fun r c h => get_set (hS r c h) (by have := h0 r c h; omega)
      have S1len : (S.set e (ent3 d (i + 1) f)).length = S.length := by simp
      have kp1 : Kp e f S (S.set e (ent3 d (i + 1) f)) := Kp.setA
      have ei : ((i : Int) + 1) = ((i + 1 : Nat) : Int) := by omega
      generalize hS1 : S.set e (ent3 d (i + 1) f) = S1 at hp S1e S1l S1f S1S S1len kp1
      cases hxw with
      | sc hsc =>
        rw [scal_isi hsc, PM_tbl, if_neg (by simp), PZ_seq, PZ_asg, PM_eOp, PM_slot (i := 4) (d := .int (i : Nat)) rfl, PM_eC, PM_add, PZ_sub, last_ix hl rfl, PM_eC, ei, hp, SQ_nx, PZ_drop, PM_eM, PM_slot (i := 5) (d := .ref f) rfl]
        refine ⟨kindL S1f, ?_⟩
        rw [PM_aCons, PM_eOp, PM_slot (i := 3) (d := d) rfl, PM_slot (i := 4) (d := .int (i : Nat)) rfl, seq_ix (hd0.up S1S) hx, PM_aNil, PM_append S1f (by rw [List.length_take]; omega), TQ_nx]
        rw [← trunc hw]
        refine ihm (i + 1) (S1.set f (.lst (vs.take (i + 1)))) base l e f _ _ _ _ _ U (by omega) (by omega) (fun r c h => get_set (S1S r c h) (by have := h0 r c h; omega)) (get_set S1l n2) (get_set S1e n3) (set_self S1f) g1 g2 g3 n1 n2 n3 hb fun S' x2 x3 x4 x5 q1 q2 q3 q4 => hU S' x2 x3 x4 x5 q1 (kp1.trans (Kp.setB.trans q2)) q3 q4
      | @seq nn1 _ ds1 vs1 hd1 hl1 hz1 hall1 =>
        have hd1S := hd1.up hS
        rw [seq_isi hd1S, PM_tbl, if_pos rfl, PZ_seq, PZ_asg, PM_eOp, PM_slot (i := 4) (d := .int (i : Nat)) rfl, PM_eC, PM_add, PZ_sub, last_ix hl rfl, PM_eC, ei, hp, SQ_nx, PZ_drop, PM_eM, PM_slot (i := 1) (d := .ref l) rfl]
        refine ⟨kindL S1l, ?_⟩
        rw [PM_aCons, PM_eLst, PM_aCons, PM_eOp, PM_slot (i := 3) (d := d) rfl, PM_slot (i := 4) (d := .int (i : Nat)) rfl, seq_ix (hd0.up S1S) hx, PM_aCons, PM_eC, PM_aCons, PM_eLst, PM_aNil]
        refine ⟨by simp, ?_⟩
        rw [PM_aNil]
        refine ⟨by simp; omega, ?_⟩
        rw [PM_aNil]
        have hlS2 : ((S1 ++ [Cell.lst []]) ++ [Cell.lst [x, .int 0, .ref S1.length]])[l]? = some (.lst (base ++ [.ref e])) := get_ap (get_ap S1l)
        rw [PM_append hlS2 (by simp; omega), TQ_nx]
        have l1 := get_lt S1l
        have l2 := get_lt S1e
        have l3 := get_lt S1f
        have el2 : (S1 ++ [Cell.lst []]).length = S1.length + 1 := by simp
        rw [el2]
        have hn0 : n0 ≤ S1.length := by omega
        have T1 : ∀ (r : Nat) (c : Cell), r ≠ l → S1[r]? = some c → (((S1 ++ [Cell.lst []]) ++ [Cell.lst [x, .int 0, .ref S1.length]]).set l (.lst ((base ++ [.ref e]) ++ [.ref (S1.length + 1)])))[r]? = some c := fun r c hr h => get_set (get_ap (get_ap h)) hr
        have Tl : (((S1 ++ [Cell.lst []]) ++ [Cell.lst [x, .int 0, .ref S1.length]]).set l (.lst ((base ++ [.ref e]) ++ [.ref (S1.length + 1)])))[l]? = some (.lst ((base ++ [.ref e]) ++ [.ref (S1.length + 1)])) := set_self hlS2
        have Te : (((S1 ++ [Cell.lst []]) ++ [Cell.lst [x, .int 0, .ref S1.length]]).set l (.lst ((base ++ [.ref e]) ++ [.ref (S1.length + 1)])))[S1.length + 1]? = some (ent3 x 0 S1.length) := get_set (by rw [← el2]; exact get_last) (by omega)
        have Tf : (((S1 ++ [Cell.lst []]) ++ [Cell.lst [x, .int 0, .ref S1.length]]).set l (.lst ((base ++ [.ref e]) ++ [.ref (S1.length + 1)])))[S1.length]? = some (.lst (vs1.take 0)) := get_set (get_ap get_last) (by omega)
        have Tlen : (((S1 ++ [Cell.lst []]) ++ [Cell.lst [x, .int 0, .ref S1.length]]).set l (.lst ((base ++ [.ref e]) ++ [.ref (S1.length + 1)]))).length = S1.length + 2 := by simp
        generalize hS2 : ((S1 ++ [Cell.lst []]) ++ [Cell.lst [x, .int 0, .ref S1.length]]).set l (.lst ((base ++ [.ref e]) ++ [.ref (S1.length + 1)])) = S2 at T1 Tl Te Tf Tlen
        refine ih i x (.tup vs1) hx hw ds1 vs1 hd1 rfl ds1.length 0 S2 (base ++ [.ref e]) l (S1.length + 1) S1.length x0 _ _ _ _ U (by omega) (by omega) (fun r c h => T1 r c (by have := h0 r c h; omega) (S1S r c h)) Tl Te Tf g1 (by omega) hn0 (by omega) (by omega) (by omega) (by simp; omega) fun S3 y2 y3 y4 y5 q1 q2 q3 q4 => ?_
        have hl3 : S3[l]? = some (.lst ((base ++ [.ref e]) ++ [.ref (S1.length + 1)])) := q2.get Tl (by omega) (by omega)
        have he3 : S3[e]? = some (ent3 d (i + 1) f) := q2.get (T1 e _ (Ne.symm n1) S1e) (by omega) (by omega)
        have hf3 : S3[f]? = some (.lst (vs.take i)) := q2.get (T1 f _ (Ne.symm n2) S1f) (by omega) (by omega)
        refine PZ_while ?_
        rw [PM_tV, PM_slot (i := 1) (d := .ref l) rfl, PM_tlst hl3]
        have e4 : (!((base ++ [D.ref e]) ++ [D.ref (S1.length + 1)]).isEmpty) = true := by simp
        rw [e4, if_pos rfl, PZ_seq, PZ_asg, last_ix hl3 rfl, PZ_tupL q3 rfl, PZ_allC, PZ_one, SQ_nx, PZ_allC, PZ_one, SQ_nx, PZ_allC, PZ_one, SQ_nx, PZ_allN, SQ_nx]
        change PZ _ (rhoT x0 l y2 (some x) (some (.int (ds1.length : Nat))) (some (.ref S1.length))) S3 _
        rw [PZ_if, PM_tCmp, PM_slot (i := 4) (d := .int (ds1.length : Nat)) rfl, PM_eUn, PM_slot (i := 3) (d := x) rfl, seq_len (hd1.up q1), own_int, PM_eqi]
        have e5 : decide ((ds1.length : Int) = (ds1.length : Int)) = true := by simp
        rw [e5, if_pos rfl, PZ_seq, PZ_drop, PM_eM, PM_slot (i := 1) (d := .ref l) rfl]
        refine ⟨kindL hl3, ?_⟩
        have hpop : ∀ Q : D → Store → Prop, PM (mPop (.ref l) []) S3 Q ↔ Q (.ref (S1.length + 1)) (S3.set l (.lst (base ++ [.ref e]))) := fun Q => by
          refine PM_of ?_
          unfold mPop
          simp only [hl3]
          have : ((base ++ [D.ref e]) ++ [D.ref (S1.length + 1)])[((base ++ [D.ref e]) ++ [D.ref (S1.length + 1)]).length - 1]? = some (.ref (S1.length + 1)) := by simp
          rw [this]
          simp
        rw [PM_aNil, hpop, SQ_nx, PZ_seq, PZ_asg, PM_eUn, PM_slot (i := 5) (d := .ref S1.length) rfl]
        have U1 : (S3.set l (.lst (base ++ [.ref e])))[S1.length]? = some (.lst vs1) := get_set q4 (by omega)
        have Ul : (S3.set l (.lst (base ++ [.ref e])))[l]? = some (.lst (base ++ [.ref e])) := set_self hl3
        have Ue : (S3.set l (.lst (base ++ [.ref e])))[e]? = some (ent3 d (i + 1) f) := get_set he3 (Ne.symm n1)
        have Uf : (S3.set l (.lst (base ++ [.ref e])))[f]? = some (.lst (vs.take i)) := get_set hf3 (Ne.symm n2)
        have US : ∀ (r : Nat) (c : Cell), S0[r]? = some c → (S3.set l (.lst (base ++ [.ref e])))[r]? = some c := fun r c h => get_set (q1 r c h) (by have := h0 r c h; omega)
        have kp3 : Kp e f S1 (S3.set l (.lst (base ++ [.ref e]))) := by
          have q21 := q2.1
          refine ⟨by rw [List.length_set]; omega, fun r hr h1 h2 => ?_⟩
          by_cases hrl : r = l
          · rw [hrl, Ul, S1l]
          · rw [List.getElem?_set_ne (Ne.symm hrl), q2.2 r (by omega) (by omega) (by omega)]
            have : S1[r]? = some (S1[r]'hr) := List.getElem?_eq_getElem hr
            rw [this]
            exact T1 r _ hrl this
        generalize hS4 : S3.set l (.lst (base ++ [.ref e])) = S4 at U1 Ul Ue Uf US kp3
        rw [PM_tupL U1, PZ_one, SQ_nx]
        change PZ _ (rhoT x0 l (some (.tup vs1)) (some x) (some (.int (ds1.length : Nat))) (some (.ref S1.length))) S4 _
        rw [PZ_if, PM_tV, PM_slot (i := 1) (d := .ref l) rfl, PM_tlst Ul]
        have e6 : (!(base ++ [D.ref e]).isEmpty) = true := by simp
        rw [e6, if_pos rfl, PZ_drop, PM_eM, PM_eOp, last_ix Ul rfl, PM_eC, PM_ixL Ue]
        refine ⟨.ref f, atI_nat (n := 2) (by simp), kindL Uf, ?_⟩
        rw [PM_aCons, PM_slot (i := 2) (d := .tup vs1) rfl, PM_aNil, PM_append Uf (by rw [List.length_take]; omega), TQ_nx, ← trunc hw]
        refine ihm (i + 1) (S4.set f (.lst (vs.take (i + 1)))) base l e f _ _ _ _ _ U (by omega) (by omega) (fun r c h => get_set (US r c h) (by have := h0 r c h; omega)) (get_set Ul n2) (get_set Ue n3) (set_self Uf) g1 g2 g3 n1 n2 n3 hb fun S' x2 x3 x4 x5 q1 q2 q3 q4 => hU S' x2 x3 x4 x5 q1 (kp1.trans (kp3.trans (Kp.setB.trans q2))) q3 q4
end


section
variable {k n0 : Nat} {S S0 : Store} {ρ : En} {Q : D → Store → Prop}
theorem belowDs_of {m : Nat} : ∀ {ds : List D}, (∀ (i : Nat) d, ds[i]? = some d → belowD m d) → belowDs m ds
  | [], _ => trivial
  | d :: ds, h => ⟨h 0 d rfl, belowDs_of fun i x hx => h (i + 1) x (by simpa using hx)⟩
theorem Fz.noref {nn : Nat} {d v : D} (h : Fz S nn d v) : ∀ m, belowD m v := by
  induction h with
  | @sc n d h =>
    intro m
    cases d with
    | obj c xs => exact h.2 m
    | ref r => exact h.elim
    | flst _ => exact h.elim
    | tup _ => exact h.elim
    | _ => trivial
  | @seq n d ds vs hd hl hz hall ih =>
    intro m
    exact belowDs_of fun i v hv => by
      obtain ⟨x, hx⟩ : ∃ x, ds[i]? = some x := ⟨_, List.getElem?_eq_getElem (by have := (List.getElem?_eq_some_iff.mp hv).1; omega)⟩
      exact ih i x v hx hv m
theorem m_tup {nn : Nat} {d v : D} (h : Fz S nn d v) (hn : nn < 999999) : (CC (k + 1)).fn 27 [d] S = some (.ok v S) := by
  refine fn_eq (PM_fn rfl rfl rfl ?_)
  unfold b_as_tuples
  change PZ _ [some d, none, none, none, none, none] S _
  have big := sizeLine_big
  have hb := h.noref
  rw [PZ_seq, PZ_if, PM_tNot, PM_tV, PM_eOp, PM_slot (i := 0) (d := d) rfl, PM_eTup, PM_aCons, PM_eC, PM_aCons, PM_eC, PM_aNil]
  refine ⟨by simp; omega, ?_⟩
  have h' := h
  cases h with
  | sc hs =>
    rw [scal_isi hs, PM_tbl]
    simp only [Bool.not_false, if_true]
    rw [PZ_ret, PM_slot (i := 0) (d := d) rfl, SQ_rt]
    exact ⟨rfl, dropR_len (Nat.le_refl _)⟩
  | @seq n _ ds vs hd hl hz hall =>
    rw [seq_isi hd, PM_tbl]
    simp only [Bool.not_true, Bool.false_eq_true, if_false]
    rw [PZ_nx, SQ_nx, PZ_seq, PZ_par, PM_aCons, PM_eLst, PM_aCons, PM_eLst, PM_aCons, PM_slot (i := 0) (d := d) rfl, PM_aCons, PM_eC, PM_aCons, PM_eLst, PM_aNil]
    refine ⟨by simp, ?_⟩
    rw [PM_aNil]
    refine ⟨by simp; omega, ?_⟩
    rw [PM_aNil]
    refine ⟨by simp; omega, ?_⟩
    rw [PM_aCons, PM_eC, PM_aNil]
    refine ⟨rfl, ?_⟩
    rw [SQ_nx]
    have e1 : (S ++ [Cell.lst []]).length = S.length + 1 := by simp
    have e2 : ((S ++ [Cell.lst []]) ++ [Cell.lst [d, .int 0, .ref S.length]]).length = S.length + 2 := by simp
    rw [e1, e2]
    change PZ _ (rhoT (some d) (S.length + 2) (some .non) none none none) _ _
    have X1 : (((S ++ [Cell.lst []]) ++ [Cell.lst [d, .int 0, .ref S.length]]) ++ [Cell.lst [.ref (S.length + 1)]])[S.length]? = some (.lst (vs.take 0)) := get_ap (get_ap get_last)
    have X2 : (((S ++ [Cell.lst []]) ++ [Cell.lst [d, .int 0, .ref S.length]]) ++ [Cell.lst [.ref (S.length + 1)]])[S.length + 1]? = some (ent3 d 0 S.length) := get_ap (by rw [← e1]; exact get_last)
    have X3 : (((S ++ [Cell.lst []]) ++ [Cell.lst [d, .int 0, .ref S.length]]) ++ [Cell.lst [.ref (S.length + 1)]])[S.length + 2]? = some (.lst ([] ++ [.ref (S.length + 1)])) := by rw [← e2]; exact get_last
    have XS : ∀ (r : Nat) (c : Cell), S[r]? = some c → (((S ++ [Cell.lst []]) ++ [Cell.lst [d, .int 0, .ref S.length]]) ++ [Cell.lst [.ref (S.length + 1)]])[r]? = some c := fun r c hh => get_ap (get_ap (get_ap hh))
    rw [PZ_seq]
    refine tup_go (k := k) (n0 := S.length) (S0 := S) (fun r c hh => get_lt hh) h' ds vs hd rfl ds.length 0 _ [] (S.length + 2) (S.length + 1) S.length _ _ _ _ _ _ (by omega) (by omega) XS X3 X2 X1 (by omega) (by omega) (by omega) (by omega) (by omega) (by omega) (by simp; omega) fun S' x2 x3 x4 x5 q1 q2 q3 q4 => ?_
    have hl3 : S'[S.length + 2]? = some (.lst ([] ++ [.ref (S.length + 1)])) := q2.get X3 (by omega) (by omega)
    refine PZ_while ?_
    rw [PM_tV, PM_slot (i := 1) (d := .ref (S.length + 2)) rfl, PM_tlst hl3]
    have e4 : (!([] ++ [D.ref (S.length + 1)]).isEmpty) = true := rfl
    rw [e4, if_pos rfl, PZ_seq, PZ_asg, last_ix hl3 rfl, PZ_tupL q3 rfl, PZ_allC, PZ_one, SQ_nx, PZ_allC, PZ_one, SQ_nx, PZ_allC, PZ_one, SQ_nx, PZ_allN, SQ_nx]
    change PZ _ (rhoT (some d) (S.length + 2) x2 (some d) (some (.int (ds.length : Nat))) (some (.ref S.length))) S' _
    rw [PZ_if, PM_tCmp, PM_slot (i := 4) (d := .int (ds.length : Nat)) rfl, PM_eUn, PM_slot (i := 3) (d := d) rfl, seq_len (hd.up q1), own_int, PM_eqi]
    have e5 : decide ((ds.length : Int) = (ds.length : Int)) = true := by simp
    rw [e5, if_pos rfl, PZ_seq, PZ_drop, PM_eM, PM_slot (i := 1) (d := .ref (S.length + 2)) rfl]
    refine ⟨kindL hl3, ?_⟩
    have hpop : ∀ Q : D → Store → Prop, PM (mPop (.ref (S.length + 2)) []) S' Q ↔ Q (.ref (S.length + 1)) (S'.set (S.length + 2) (.lst [])) := fun Q => by
      refine PM_of ?_
      unfold mPop
      simp only [hl3]
      rfl
    rw [PM_aNil, hpop, SQ_nx, PZ_seq, PZ_asg, PM_eUn, PM_slot (i := 5) (d := .ref S.length) rfl, PM_tupL (get_set q4 (by omega)), PZ_one, SQ_nx]
    have hl4 : (S'.set (S.length + 2) (.lst []))[S.length + 2]? = some (.lst []) := set_self hl3
    change PZ _ (rhoT (some d) (S.length + 2) (some (.tup vs)) (some d) (some (.int (ds.length : Nat))) (some (.ref S.length))) _ _
    rw [PZ_if, PM_tV, PM_slot (i := 1) (d := .ref (S.length + 2)) rfl, PM_tlst hl4]
    simp only [List.isEmpty_nil, Bool.not_true, Bool.false_eq_true, if_false]
    rw [PZ_nx, TQ_nx]
    refine PZ_while ?_
    rw [PM_tV, PM_slot (i := 1) (d := .ref (S.length + 2)) rfl, PM_tlst hl4]
    simp only [List.isEmpty_nil, Bool.not_true, Bool.false_eq_true, if_false]
    rw [SQ_nx, PZ_ret, PM_slot (i := 2) (d := .tup vs) rfl]
    refine ⟨rfl, dropR_pure ?_ (hb _)⟩
    have hlen : S.length ≤ (S'.set (S.length + 2) (.lst [])).length := by
      have := q2.1
      simp at this ⊢
      omega
    refine List.ext_getElem? fun r => ?_
    rw [List.getElem?_take]
    by_cases hr : r < S.length
    · rw [if_pos hr, List.getElem?_set_ne (by omega)]
      have : S[r]? = some (S[r]'hr) := List.getElem?_eq_getElem hr
      rw [this]
      exact q1 r _ this
    · rw [if_neg hr, List.getElem?_eq_none (by omega)]
end


section
variable {k n0 : Nat} {S S0 S' : Store} {ρ : En} {Q : D → Store → Prop}
theorem Fz.up {nn : Nat} {d v : D} (h : Fz S nn d v) (l : ∀ (r : Nat) (c : Cell), S[r]? = some c → S'[r]? = some c) : Fz S' nn d v := by
  induction h with
  | sc h => exact .sc h
  | seq hd hl hz hall ih => exact .seq (hd.up l) hl hz ih
theorem Fz.ap {nn : Nat} {d v : D} (h : Fz S nn d v) (X : Store) : Fz (S ++ X) nn d v := h.up fun r c h => get_ap h
theorem Fz.lift {nn : Nat} {d v : D} (h : Fz S nn d v) : ∀ m, nn ≤ m → Fz S m d v := by
  induction h with
  | sc h => exact fun m _ => .sc h
  | @seq n d ds vs hd hl hz hall ih =>
    intro m hm
    obtain ⟨m', rfl⟩ : ∃ m', m = m' + 1 := ⟨m - 1, by omega⟩
    exact .seq hd hl hz fun i x v h1 h2 => ih i x v h1 h2 m' (by omega)
theorem Fz.ints {xs : List Int} (h : xs.length < 1000000) : Fz S 1 (.tup (xs.map .int)) (.tup (xs.map .int)) := by
  refine .seq (.inl rfl) rfl (by rw [List.length_map]; exact h) fun i x v h1 h2 => ?_
  have e : x = v := by rw [h1] at h2; cases h2; rfl
  subst e
  obtain ⟨z, hz, rfl⟩ := List.mem_map.mp (List.mem_of_getElem? h1)
  exact .sc trivial
theorem Fz.int {i : Int} : Fz S 0 (.int i) (.int i) := .sc trivial
/-- one field more -/
theorem fz_step {c : Nat} {fs : List (Str × D)} {f : Str} {d v : D} {j nn : Nat} {U : RS → Prop} (h : Fz S nn d v) (hn : nn < 999999) (h0 : ρ[0]? = some (some (.ref S.length))) (hj : ρ[j]? = some (some d)) (hf : f ∈ Γ.fields c) (hl : fs.length < 1000)
    (hU : U (.nx ρ (S ++ [.obj c (putFD f v fs)]))) : PZ (sAsg (gFldS Γ f (eSlot 0)) (eCall (CC (k + 1)) 27 1 (aCons (eSlot j) aNil))) ρ (S ++ [.obj c fs]) U := by
  rw [PZ_asg, PM_eCall, PM_aCons, PM_slot hj, PM_aNil]
  refine ⟨rfl, ?_⟩
  rw [PM_of (m_tup (h.ap _) hn), PZ_fld, PM_slot h0, PM_putF get_last hf hl, set_last]
  exact hU
/-- a frozen class of one field -/
theorem n_one {c i : Nat} {f : Str} {ms : List (Str × Nat)} {b : Calls → Sv} {fd : Fd} {d v : D} {nn : Nat} (hc : Γ.cls[c]? = some ⟨[f], true, some i, ms⟩) (hf : Γ.fns[i]? = some fd) (hb : bs[i]? = some b) (hl : fd.ps.length = 2) (hN : fd.N.length = 2)
    (hbody : b (CC (k + 1)) = sAsg (gFldS Γ f (eSlot 0)) (eCall (CC (k + 1)) 27 1 (aCons (eSlot 1) aNil))) (hff : f ∈ Γ.fields c) (h : Fz S nn d v) (hn : nn < 999999) (hQ : Q (.obj c [v]) S) : PM ((CC (k + 3)).new c [d]) S Q := by
  refine PM_new (xs := [v]) hc rfl rfl ?_ rfl ⟨h.noref _, trivial⟩ hQ
  refine PM_fn hf hb (by rw [hl]; rfl) ?_
  rw [hN, show b (callsAt Γ bs (k + 1)) = _ from hbody]
  refine fz_step (k := k) h hn rfl rfl hff (by simp) ?_
  exact ⟨rfl, dropR_len (by simp)⟩
theorem n_made {d v : D} {nn : Nat} (h : Fz S nn d v) (hn : nn < 999999) (hQ : Q (.obj 2 [v]) S) : PM ((CC (k + 3)).new 2 [d]) S Q := by
  refine PM_new (xs := [v]) rfl rfl rfl ?_ rfl ⟨h.noref _, trivial⟩ hQ
  refine PM_fn rfl rfl rfl ?_
  unfold b_Made_init
  refine fz_step (k := k) h hn rfl rfl (by decide) (by simp) ?_
  exact ⟨rfl, dropR_len (by simp)⟩
theorem n_notmade {d v d2 v2 : D} {nn : Nat} (h : Fz S nn d v) (h2 : Fz S nn d2 v2) (hn : nn < 999999) (hQ : Q (.obj 3 [v, v2]) S) : PM ((CC (k + 3)).new 3 [d, d2]) S Q := by
  refine PM_new (xs := [v, v2]) rfl rfl rfl ?_ rfl ⟨h.noref _, h2.noref _, trivial⟩ hQ
  refine PM_fn rfl rfl rfl ?_
  unfold b_NotMade_init
  rw [PZ_seq]
  refine fz_step (k := k) h hn rfl rfl (by decide) (by simp) ?_
  rw [SQ_nx]
  refine fz_step (k := k) h2 hn rfl rfl (by decide) (show 1 < 1000 by decide) ?_
  exact ⟨rfl, dropR_len (by simp)⟩
end


section
variable {k n s a b c : Nat} {S : Store} {ρ : En} {Q : D → Store → Prop} {R T R0 : List (List Int)} {L : List Nat}
/-- behind a body -/
def FQ (S : Store) (Q : D → Store → Prop) : RS → Prop
  | .rt d S' => Q d (dropR S d S')
  | .nx _ S' => Q .non (dropR S .non S')
  | _ => False
theorem FQ_rt {d : D} {S' : Store} : FQ S Q (.rt d S') = Q d (dropR S d S') := rfl
theorem FQ_nx {S' : Store} : FQ S Q (.nx ρ S') = Q .non (dropR S .non S') := rfl
theorem PM_fnq {Γ : Pg} {bs : List (Calls → Sv)} {k i : Nat} {f : Fd} {b : Calls → Sv} {ds : List D} (hf : Γ.fns[i]? = some f) (hb : bs[i]? = some b) (hl : ds.length = f.ps.length)
    (h : PZ (b (callsAt Γ bs k)) (ds.map some ++ List.replicate (f.N.length - ds.length) none) S (FQ S Q)) : PM ((callsAt Γ bs (k + 1)).fn i ds) S Q :=
  PM_fn hf hb hl (h.imp fun r h => by cases r <;> exact h)
/-- a row, a table of rows -/
abbrev rowD (xs : List Int) : D := .tup (xs.map .int)
abbrev tabD (R : List (List Int)) : D := .tup (R.map rowD)
theorem seq_row {xs : List Int} : ISeq S (rowD xs) xs := .inr rfl
theorem seq_tab : RSeq S (tabD R) R := ⟨R.map rowD, .inl rfl, by simp, fun i x xs h1 h2 => by
  rw [List.getElem?_map, h2] at h1
  cases h1
  exact seq_row⟩
/-- the bounds that a stepper of such rows wants -/
structure Bd (N w B0 C kb eb E : Nat) : Prop where
  nN : N < 1000
  nw : w < 1000
  nB : 1 ≤ B0
  kb2 : kb ≤ 10000000
  eb2 : eb < 9000
  a : ∀ s, s ≤ N → s ≤ w → bB N B0 s * (6 * bB N B0 s) ^ (N - s) < 2 ^ kb
  b : ∀ s, s < N → s < w → bB N B0 s < 2 ^ eb
  c : ∀ l, l ≤ N → l ≤ w → C * (1 + bB N B0 l) ^ l < 2 ^ kb
  d : ∀ l, l ≤ N → l ≤ w → bB N B0 l < 2 ^ kb
  e1 : 1 ≤ E
  e2 : ∀ j, j < N → j < w → bB N B0 j ≤ E
  e3 : ∀ l, l ≤ N → l ≤ w → E ^ l < 2 ^ eb
  f : ∀ l, l ≤ N → l ≤ w → ((w + 1) * bB N B0 l) ^ l < 2 ^ kb
  g : ∀ l, l ≤ N → l ≤ w → (E + 2 * (C * (1 + bB N B0 l) ^ l)) * E ^ l < 2 ^ kb
  h : ∀ l, l ≤ N → l ≤ w → l * ((C * (1 + bB N B0 l) ^ l) * bB N B0 l) < 2 ^ kb
/-- what tells rows and a width -/
structure Holds (some : D) (w : Nat) (R : List (List Int)) : Prop where
  w : ∀ (S : Store) (Q : D → Store → Prop), PM (oFld Γ "width" some) S Q ↔ Q (.int (w : Nat)) S
  r : ∀ (S : Store) (Q : D → Store → Prop), PM (oFld Γ "rows" some) S Q ↔ Q (tabD R) S
abbrev listD (w : Nat) (R : List (List Int)) : D := .obj 0 [.int (w : Nat), tabD R]
theorem ld_w {w : Nat} : PM (oFld Γ "width" (listD w R)) S Q ↔ Q (.int (w : Nat)) S := PM_fldO rfl
theorem ld_r {w : Nat} : PM (oFld Γ "rows" (listD w R)) S Q ↔ Q (tabD R) S := PM_fldO rfl
theorem ld_h {w : Nat} : Holds (listD w R) w R := ⟨fun _ _ => ld_w, fun _ _ => ld_r⟩
theorem m_stepper {w N B0 C kb eb E : Nat} {some' : D} (ho : Holds some' w R0) (bd : Bd N w B0 C kb eb E) (wR : Wd R0 w) (lR : R0.length = N) (eR : Eb R0 B0) :
    PM ((CC (k + 5)).fn 35 [some']) S fun v S' => v = .ref S.length ∧ Lo S.length S S' ∧ ∃ a b c R T L, Fin S.length S' S.length a b c w N B0 R T L ∧ L.length ≤ w := by
  refine PM_fn rfl rfl rfl ?_
  unfold b_stepper_of
  rw [PZ_ret, PM_eNew, PM_aCons, PM_eUn, PM_slot (i := 0) (d := some') rfl, ho.r, PM_aCons, PM_eUn, PM_slot (i := 0) (d := some') rfl, ho.w, PM_aNil]
  refine ⟨rfl, ?_⟩
  refine (m_new (k := k) (kb := kb) (eb := eb) seq_tab bd.nN bd.nw bd.nB wR lR eR (fun s h1 h2 => bd.a s h1 (by omega)) bd.kb2 (fun s h1 h2 => bd.b s h1 h2) bd.eb2).imp ?_
  rintro v S' ⟨rfl, lo, h⟩
  have e : dropR S (.ref S.length) S' = S' := dropR_new (by intro h; exact Nat.lt_irrefl _ h)
  show _ = _ ∧ Lo _ _ (dropR S (.ref S.length) S') ∧ ∃ a b c R T L, Fin _ (dropR S (.ref S.length) S') _ a b c w N B0 R T L ∧ L.length ≤ w
  rw [e]
  exact ⟨rfl, lo, h⟩
def small (kb : Nat) (xs : List Int) : Prop := ∀ x ∈ xs, x.natAbs < 2 ^ kb
theorem Lo.take {S' : Store} (h : Lo S.length S S') : S'.take S.length = S := by
  refine List.ext_getElem? fun r => ?_
  rw [List.getElem?_take]
  by_cases hr : r < S.length
  · rw [if_pos hr]
    have e : S[r]? = some (S[r]'hr) := List.getElem?_eq_getElem hr
    rw [e]; exact h r _ hr e
  · rw [if_neg hr, List.getElem?_eq_none (by omega)]
theorem Lo.app {S' X : Store} (h : Lo S.length S S') : Lo S.length S (S' ++ X) := fun r x hr e => get_ap (h r x hr e)
theorem Tab.rseq {ds : List D} {b : Nat} (h : Tab S ds R) (hb : S[b]? = some (.lst ds)) : RSeq S (.ref b) R :=
  ⟨ds, .inr ⟨b, rfl, hb⟩, h.1, fun i x xs h1 h2 => by
    obtain ⟨r, ys, rfl, e2, e3⟩ := h.2 i x h1
    rw [h2] at e2; cases e2
    exact .inl ⟨r, rfl, e3⟩⟩
theorem nodup_le : ∀ (w : Nat) (L : List Nat), L.Nodup → (∀ x ∈ L, x < w) → L.length ≤ w
  | 0, L, _, h => by
    cases L with
    | nil => exact Nat.le_refl _
    | cons x L => have := h x List.mem_cons_self; omega
  | w + 1, L, hn, h => by
    by_cases hw : w ∈ L
    · have h1 := nodup_le w (L.erase w) (hn.erase w) fun x hx => by
        have := (hn.mem_erase_iff).mp hx
        have := h x this.2
        omega
      rw [List.length_erase_of_mem hw] at h1
      omega
    · have := nodup_le w L hn fun x hx => by
        have h1 := h x hx
        have : x ≠ w := fun e => hw (e ▸ hx)
        omega
      omega
theorem Fin.lt {w N B0 col : Nat} (f : Fin n S s a b c w N B0 R T L) (h1 : col < w) (h2 : col ∉ L) : L.length < w := by
  have nd : L.Nodup := by
    refine List.pairwise_iff_getElem.mpr fun i j hi hj hij e => ?_
    have e1 : L[i]? = some L[i] := List.getElem?_eq_getElem hi
    have e2 : L[j]? = some L[i] := by rw [List.getElem?_eq_getElem hj, e]
    have g1 := (f.ld j _ e2).1
    have g2 := f.zr i _ e1 j hij
    omega
  have := nodup_le w (col :: L) (List.nodup_cons.mpr ⟨h2, nd⟩) fun x hx => by
    rcases List.mem_cons.mp hx with rfl | hx
    · exact h1
    · obtain ⟨i, hi, rfl⟩ := List.getElem_of_mem hx
      exact (f.ld i _ (List.getElem?_eq_getElem hi)).2.2
  rw [List.length_cons] at this
  omega
def MadeR (N w kb : Nat) (P : Nat → Prop) (d : D) : Prop := (∃ ns : List Int, d = .obj 2 [rowD ns] ∧ ns.length = N ∧ small kb ns) ∨ ∃ (ts : List Int) (bt : Int), d = .obj 3 [rowD ts, .int bt] ∧ ts.length = w ∧ small kb ts ∧ bt.natAbs < 2 ^ kb ∧ 0 < bt ∧ P bt.natAbs
theorem m_made {w N B0 C kb eb E : Nat} {xs : List Int} {some' : D} (ho : Holds some' w R0) (bd : Bd N w B0 C kb eb E) (wR : Wd R0 w) (lR : R0.length = N) (eR : Eb R0 B0) {P : Nat → Prop} (hP : ∀ b l, l ≤ N → (l ≤ w ∧ b ≤ E * E ^ l ∨ l < w ∧ b ≤ 2 * (C * (1 + bB N B0 l) ^ l) * E ^ l) → P b) (hx : xs.length = w) (hC : ∀ x ∈ xs, x.natAbs ≤ C) :
    PM ((CC (k + 6)).fn 42 [some', rowD xs]) S fun d S' => S' = S ∧ MadeR N w kb P d := by
  refine PM_fn rfl rfl rfl ?_
  unfold b_made_by
  change PZ _ [some (some'), some (rowD xs), none, none, none, none, none] _ _
  rw [PZ_seq, PZ_asg, PM_eCall, PM_aCons, PM_slot (i := 0) (d := some') rfl, PM_aNil]
  refine ⟨rfl, ?_⟩
  refine (m_stepper (k := k) ho bd wR lR eR).imp ?_
  rintro v S1 ⟨rfl, lo, a, b, c, R, T, L, fin, hlw⟩
  rw [PZ_one, SQ_nx]
  change PZ _ [some (some'), some (rowD xs), some (.ref S.length), none, none, none, none] _ _
  have hle := fin.le
  rw [PZ_seq, PZ_asg, PM_meth, PM_slot (i := 2) (d := .ref S.length) rfl, PM_clsR fin.st.ob rfl]
  refine ⟨(10, 2), rfl, ?_⟩
  rw [PM_aCons, PM_slot (i := 1) (d := rowD xs) rfl, PM_aNil]
  refine ⟨rfl, ?_⟩
  refine m_low (k := k + 4) fin seq_row hx hC bd.nN bd.nw (fun j hj => bd.b j (by omega) (by omega)) bd.eb2 (bd.c _ hle hlw) (bd.d _ hle hlw) bd.kb2 fun X rn rl ns ls hn hl ln ll an al => ?_
  rw [PZ_tup rfl, PZ_allC, PZ_one, SQ_nx, PZ_allC, PZ_one, SQ_nx, PZ_allN, SQ_nx]
  change PZ _ [some (some'), some (rowD xs), some (.ref S.length), some (.ref rn), some (.ref rl), none, none] _ _
  have fin2 : ∃ b T, (S1 ++ X)[S.length]? = some (.obj 1 (stpF a b c)) ∧ RSeq (S1 ++ X) (.ref b) T ∧ Wd T N ∧ Eb T (bB N B0 L.length) ∧ Fin S.length (S1 ++ X) S.length a b c w N B0 R T L := by
    have st := fin.st.ap X
    obtain ⟨es, g1, g2, g3⟩ := st.rb
    exact ⟨b, T, st.ob, g2.rseq g1, fin.wT, fin.eT, ⟨st, fin.wR, fin.wT, fin.lR, fin.lT, fin.eR, fin.eT, fin.ld, fin.zr, fin.le⟩⟩
  have lo2 : Lo S.length S (S1 ++ X) := lo.app
  generalize S1 ++ X = S2 at hn hl fin2 lo2
  rw [PZ_seq, PZ_if, PM_tNot, PM_tV, PM_eUn, PM_slot (i := 4) (d := .ref rl) rfl, PM_anyL hl (asBls_int _), PM_tbl]
  obtain ⟨b2, T2, st2, rs2, wT2, eT2, fin2⟩ := fin2
  cases hany : (ls.map (· != 0)).any id with
  | false =>
    simp only [Bool.not_false, if_true]
    rw [PZ_ret, PM_eNew, PM_aCons, PM_eCall, PM_aCons, PM_slot (i := 2) (d := .ref S.length) rfl, PM_aCons, PM_slot (i := 3) (d := .ref rn) rfl, PM_aCons, PM_eUn, PM_eUn, PM_slot (i := 0) (d := some') rfl, ho.r, PM_lenT, PM_aNil]
    refine ⟨rfl, ?_⟩
    have e1 : (((R0.map rowD).length : Nat) : Int) = (N : Int) := by rw [List.length_map, lR]
    rw [e1]
    refine PM_fn rfl rfl rfl ?_
    unfold b_numbers_by
    change PZ _ [some (.ref S.length), some (.ref rn), some (.int (N : Nat))] _ _
    rw [PZ_ret, PM_eUn, PM_eCall, PM_aCons, PM_slot (i := 1) (d := .ref rn) rfl, PM_aCons, PM_eUn, PM_slot (i := 0) (d := .ref S.length) rfl, PM_fldR st2 (by rw [stF]; decide) rfl, PM_aCons, PM_slot (i := 2) (d := .int (N : Nat)) rfl, PM_aNil]
    refine ⟨rfl, ?_⟩
    have kb3 : ∀ m ∈ ns, m.natAbs < 2 ^ kb := fun m hm => Nat.lt_of_le_of_lt (an m hm) (bd.c _ hle hlw)
    refine m_sum (k := k + 3) (.inl ⟨rn, rfl, hn⟩) rs2 wT2 bd.nN (fun m hm row hr z hz => ?_) fun Y r hr hle2 => ?_
    · obtain ⟨i, hi, rfl⟩ := List.getElem_of_mem hr
      exact mulOk_b bd.kb2 (kb3 m hm) (Nat.lt_of_le_of_lt (eT2.mem (List.getElem?_eq_getElem hi) z hz) (bd.d _ hle hlw))
    · rw [PM_tupL hr]
      dsimp only
      rw [drop_ints, PM_aNil]
      refine ⟨rfl, ?_⟩
      have sl : (sumR ns T2 N).length = N := sumR_len wT2
      refine n_made (k := k + 2) (nn := 1) (Fz.ints (by rw [sl]; have := bd.nN; omega)) (by omega) ?_
      refine ⟨dropR_pure lo2.take ⟨below_ints _, trivial⟩, .inl ⟨sumR ns T2 N, rfl, sl, fun x hx => ?_⟩⟩
      have h1 := sumR_abs (w := N) an (fun row hr z hz => by
        obtain ⟨i, hi, rfl⟩ := List.getElem_of_mem hr
        exact eT2.mem (List.getElem?_eq_getElem hi) z hz) x hx
      rw [ln] at h1
      exact Nat.lt_of_le_of_lt h1 (bd.h _ hle hlw)
  | true =>
    simp only [Bool.not_true, Bool.false_eq_true, if_false]
    rw [PZ_nx, SQ_nx, PZ_seq, PZ_asg, PM_eCall, PM_aCons, PM_slot (i := 2) (d := .ref S.length) rfl, PM_aCons, PM_slot (i := 4) (d := .ref rl) rfl, PM_aCons, PM_eUn, PM_slot (i := 0) (d := some') rfl, ho.w, PM_aNil]
    refine ⟨rfl, ?_⟩
    have nz : ∃ x ∈ ls, x ≠ 0 := by
      rw [List.any_eq_true] at hany
      obtain ⟨x, hx, e⟩ := hany
      obtain ⟨z, hz, rfl⟩ := List.mem_map.mp hx
      exact ⟨z, hz, by simpa using e⟩
    refine m_frac (k := k + 3) (Lb := C * (1 + bB N B0 L.length) ^ L.length) fin2 hl ll nz al bd.nN bd.nw bd.nB (fun j hj => bd.e2 j (by omega) (by omega)) bd.e1 (bd.e3 _ hle hlw) bd.eb2 (bd.f _ hle hlw) (bd.g _ hle hlw) (bd.d _ hle hlw) (bd.c _ hle hlw) bd.kb2 fun ts bt tl ta ba bp bq => ?_
    rw [PZ_tup rfl, PZ_allC, PZ_one, SQ_nx, PZ_allC, PZ_one, SQ_nx, PZ_allN, SQ_nx]
    rw [PZ_ret, PM_eNew, PM_aCons, PM_slot (i := 5) (d := rowD ts) rfl, PM_aCons, PM_slot (i := 6) (d := .int bt) rfl, PM_aNil]
    refine ⟨rfl, ?_⟩
    refine n_notmade (k := k + 2) (nn := 1) (Fz.ints (by rw [tl]; have := bd.nw; omega)) (Fz.int.lift 1 (by omega)) (by omega) ?_
    refine ⟨dropR_pure lo2.take ⟨below_ints _, trivial, trivial⟩, .inr ⟨ts, bt, rfl, tl, ta, ba, bp, hP _ L.length hle ?_⟩⟩
    rcases bq with h | ⟨col, h1, h2, h3⟩
    · exact .inl ⟨hlw, h⟩
    · exact .inr ⟨fin2.lt h1 h2, h3⟩
end


section
def bx (N b0 : Nat) : Nat → Nat
  | 0 => b0
  | s + 1 => (2 + (N - s)) * bx N b0 s + 3 * (N - s) + 2
theorem p2m {a b : Nat} (h : a ≤ b) : 2 ^ a ≤ 2 ^ b := Nat.pow_le_pow_right (by decide) h
theorem p2l {a b : Nat} (h : a < b) : 2 ^ a < 2 ^ b := Nat.pow_lt_pow_right (by decide) h
theorem p2mul {x y a b : Nat} (h1 : x ≤ 2 ^ a) (h2 : y ≤ 2 ^ b) : x * y ≤ 2 ^ (a + b) := by rw [Nat.pow_add]; exact Nat.mul_le_mul h1 h2
theorem p2pow {x a r : Nat} (h : x ≤ 2 ^ a) : x ^ r ≤ 2 ^ (a * r) := by rw [Nat.pow_mul]; exact Nat.pow_le_pow_left h r
theorem six_le {B b : Nat} (h : B ≤ 2 ^ b) : 6 * B ≤ 2 ^ (b + 3) := by rw [Nat.pow_add]; omega
theorem one_le {B b : Nat} (h : B ≤ 2 ^ b) : 1 + B ≤ 2 ^ (b + 1) := by
  have := Nat.one_le_two_pow (n := b)
  rw [Nat.pow_add]; omega
theorem gB_exp {B b r : Nat} (h : B ≤ 2 ^ b) : gB B r ≤ 2 ^ ((2 + r) * b + 3 * r + 2) := by
  have h1 := p2pow (r := r) (six_le h)
  have h2 := p2mul h (p2mul h h1)
  have h3 := p2mul h h1
  have e1 : b + (b + (b + 3) * r) = (2 + r) * b + 3 * r := by rw [Nat.add_mul, Nat.add_mul, Nat.mul_comm r b]; omega
  have e2 : 2 ^ (b + (b + 3) * r) ≤ 2 ^ (b + (b + (b + 3) * r)) := p2m (by omega)
  have e3 : 2 ^ b ≤ 2 ^ (b + (b + (b + 3) * r)) := p2m (by omega)
  rw [e1] at h2 e2 e3
  unfold gB
  rw [Nat.pow_add 2 _ 2]
  omega
theorem bB_exp {N B0 b0 : Nat} (h : B0 ≤ 2 ^ b0) : ∀ s, bB N B0 s ≤ 2 ^ (bx N b0 s)
  | 0 => h
  | s + 1 => gB_exp (bB_exp h s)
structure Bx (N w b0 cb kb eb m : Nat) : Prop where
  nN : N < 1000
  nw : w < 1000
  kb2 : kb ≤ 10000000
  eb2 : eb < 9000
  a : ∀ s, s ≤ N → s ≤ w → bx N b0 s + (bx N b0 s + 3) * (N - s) < kb
  b : ∀ s, s < N → s < w → bx N b0 s < eb ∧ bx N b0 s ≤ m
  e : ∀ l, l ≤ N → l ≤ w → m * l < eb
  f : ∀ l, l ≤ N → l ≤ w → (10 + bx N b0 l) * l < kb
  g : ∀ l, l ≤ N → l ≤ w → ((cb + (bx N b0 l + 1) * l) + bx N b0 l + m + 2) + m * l + l < kb
theorem Bx.bd {N w b0 cb kb eb m B0 C : Nat} (x : Bx N w b0 cb kb eb m) (hB : B0 ≤ 2 ^ b0) (h1 : 1 ≤ B0) (hC : C ≤ 2 ^ cb) : Bd N w B0 C kb eb (2 ^ m) := by
  have key : ∀ l, bB N B0 l ≤ 2 ^ (bx N b0 l) := bB_exp hB
  have cc : ∀ l, C * (1 + bB N B0 l) ^ l ≤ 2 ^ (cb + (bx N b0 l + 1) * l) := fun l => p2mul hC (p2pow (one_le (key l)))
  refine ⟨x.nN, x.nw, h1, x.kb2, x.eb2, fun s hs hw => ?_, fun s hs hw => ?_, fun l hl hw => ?_, fun l hl hw => ?_, Nat.one_le_two_pow, fun j hj hw => ?_, fun l hl hw => ?_, fun l hl hw => ?_, fun l hl hw => ?_, fun l hl hw => ?_⟩
  · exact Nat.lt_of_le_of_lt (p2mul (key s) (p2pow (six_le (key s)))) (p2l (x.a s hs hw))
  · exact Nat.lt_of_le_of_lt (key s) (p2l (x.b s hs hw).1)
  · exact Nat.lt_of_le_of_lt (cc l) (p2l (by have := x.g l hl hw; omega))
  · exact Nat.lt_of_le_of_lt (key l) (p2l (by have := x.g l hl hw; omega))
  · exact Nat.le_trans (key j) (p2m (x.b j hj hw).2)
  · rw [← Nat.pow_mul]; exact p2l (x.e l hl hw)
  · refine Nat.lt_of_le_of_lt (p2pow (a := 10 + bx N b0 l) ?_) (p2l (x.f l hl hw))
    exact p2mul (a := 10) (by have := x.nw; omega) (key l)
  · rw [← Nat.pow_mul]
    refine Nat.lt_of_le_of_lt (p2mul (a := (cb + (bx N b0 l + 1) * l) + bx N b0 l + m + 2) ?_ (Nat.le_refl (2 ^ (m * l)))) (p2l (by have := x.g l hl hw; omega))
    have k1 := cc l
    have k2 : 2 ^ (cb + (bx N b0 l + 1) * l) ≤ 2 ^ (cb + (bx N b0 l + 1) * l + bx N b0 l + m) := p2m (by omega)
    have k3 : 2 ^ m ≤ 2 ^ (cb + (bx N b0 l + 1) * l + bx N b0 l + m) := p2m (by omega)
    rw [Nat.pow_add 2 _ 2]
    omega
  · refine Nat.lt_of_le_of_lt (p2mul (a := l) (Nat.le_of_lt Nat.lt_two_pow_self) (p2mul (cc l) (key l))) (p2l (by have := x.g l hl hw; omega))
/-- the exponents, as a test -/
def bxT (N w b0 cb kb eb m : Nat) : Prop := (∀ s, s ≤ N → s ≤ w → bx N b0 s + (bx N b0 s + 3) * (N - s) < kb) ∧ (∀ s, s < N → s < w → bx N b0 s < eb ∧ bx N b0 s ≤ m) ∧ (∀ l, l ≤ N → l ≤ w → m * l < eb) ∧ (∀ l, l ≤ N → l ≤ w → (10 + bx N b0 l) * l < kb) ∧ (∀ l, l ≤ N → l ≤ w → ((cb + (bx N b0 l + 1) * l) + bx N b0 l + m + 2) + m * l + l < kb)
instance {N w b0 cb kb eb m : Nat} : Decidable (bxT N w b0 cb kb eb m) := by unfold bxT; infer_instance
theorem bxT.bx {N w b0 cb kb eb m : Nat} (h : bxT N w b0 cb kb eb m) (hN : N < 1000) (hw : w < 1000) (h1 : kb ≤ 10000000) (h2 : eb < 9000) : Bx N w b0 cb kb eb m := ⟨hN, hw, h1, h2, h.1, h.2.1, h.2.2.1, h.2.2.2.1, h.2.2.2.2⟩
/-- the bound of the bottom told, where it is wanted -/
theorem bot_lt {N w b0 cb kb eb m B0 C b l : Nat} (hB : B0 ≤ 2 ^ b0) (hC : C ≤ 2 ^ cb) (hl : l ≤ N) (h1 : ∀ l, l ≤ N → l ≤ w → m * (l + 1) < eb) (h2 : ∀ l, l ≤ N → l < w → 1 + (cb + (bx N b0 l + 1) * l) + m * l < eb)
    (h : l ≤ w ∧ b ≤ 2 ^ m * (2 ^ m) ^ l ∨ l < w ∧ b ≤ 2 * (C * (1 + bB N B0 l) ^ l) * (2 ^ m) ^ l) : b < 2 ^ eb := by
  rcases h with ⟨g1, g2⟩ | ⟨g1, g2⟩
  · rw [← Nat.pow_mul, ← Nat.pow_add] at g2
    refine Nat.lt_of_le_of_lt g2 (p2l ?_)
    have := h1 l hl g1
    rw [Nat.mul_succ] at this
    omega
  · refine Nat.lt_of_le_of_lt g2 (Nat.lt_of_le_of_lt (p2mul (a := 1 + (cb + (bx N b0 l + 1) * l)) (b := m * l) (p2mul (a := 1) (by omega) (p2mul hC (p2pow (one_le (bB_exp hB l))))) (by rw [← Nat.pow_mul]; exact Nat.le_refl _)) (p2l (h2 l hl g1)))
end


section
theorem divOk_nat {n : Nat} (h : 0 < n) (h2 : n < 2 ^ 64) : divOk (n : Int) := by
  refine ⟨by omega, ?_⟩
  have : (n : Int).natAbs = n := rfl
  rw [this]
  have := (Nat.log2_lt (by omega)).mpr h2
  omega
theorem mulOk_l {i j : Int} (h : -(2 ^ 64) < i) (h2 : i < 2 ^ 64) : mulOk i j := .inl ⟨h, h2⟩
theorem mulOk_r {i j : Int} (h : -(2 ^ 64) < j) (h2 : j < 2 ^ 64) : mulOk i j := .inr (.inl ⟨h, h2⟩)
theorem big2 : 2 ≤ sizeLine := by decide
theorem powOk18 : powOk 10 18 := by decide
end
section
variable {k : Nat} {S : Store} {Q : D → Store → Prop} {U : Unit → Store → Prop}
/-! ### the pen -/
def penC (q : Nat) (a d c f : Int) : List (Key × D) := [(.inr "cells", .ref q), (.inr "at", .int a), (.inr "digits", .int d), (.inr "count", .int c), (.inr "fold", .int f)]
/-- the store with such a pen at p -/
def penS (S : Store) (p q : Nat) (a d c f : Int) : Store := S.set p (.dct (penC q a d c f))
section
variable {p q : Nat} {a d c f x : Int} (hp : p < S.length)
include hp
theorem penS_at : (penS S p q a d c f)[p]? = some (.dct (penC q a d c f)) := by
  unfold penS; rw [List.getElem?_set_self hp]
theorem pg_cells : PM (oIx (.ref p) (.str "cells")) (penS S p q a d c f) Q ↔ Q (.ref q) (penS S p q a d c f) := PM_ixD (penS_at hp) rfl
theorem pg_at : PM (oIx (.ref p) (.str "at")) (penS S p q a d c f) Q ↔ Q (.int a) (penS S p q a d c f) := PM_ixD (penS_at hp) rfl
theorem pg_digits : PM (oIx (.ref p) (.str "digits")) (penS S p q a d c f) Q ↔ Q (.int d) (penS S p q a d c f) := PM_ixD (penS_at hp) rfl
theorem pg_count : PM (oIx (.ref p) (.str "count")) (penS S p q a d c f) Q ↔ Q (.int c) (penS S p q a d c f) := PM_ixD (penS_at hp) rfl
theorem pg_fold : PM (oIx (.ref p) (.str "fold")) (penS S p q a d c f) Q ↔ Q (.int f) (penS S p q a d c f) := PM_ixD (penS_at hp) rfl
theorem five : (penC q a d c f).length < sizeLine := by
  have : (penC q a d c f).length = 5 := rfl
  rw [this]; have := sizeLine_big; omega
theorem penS_set {x : Cell} : (penS S p q a d c f).set p x = S.set p x := by unfold penS; rw [List.set_set]
theorem pp_at : PM (oPut (.ref p) (.str "at") (.int x)) (penS S p q a d c f) U ↔ U () (penS S p q x d c f) := by
  rw [PM_putD (penS_at hp) (five hp), penS_set hp]; rfl
theorem pp_digits : PM (oPut (.ref p) (.str "digits") (.int x)) (penS S p q a d c f) U ↔ U () (penS S p q a x c f) := by
  rw [PM_putD (penS_at hp) (five hp), penS_set hp]; rfl
theorem pp_count : PM (oPut (.ref p) (.str "count") (.int x)) (penS S p q a d c f) U ↔ U () (penS S p q a d x f) := by
  rw [PM_putD (penS_at hp) (five hp), penS_set hp]; rfl
theorem pp_fold : PM (oPut (.ref p) (.str "fold") (.int x)) (penS S p q a d c f) U ↔ U () (penS S p q a d c x) := by
  rw [PM_putD (penS_at hp) (five hp), penS_set hp]; rfl
end
theorem penS_len {p q : Nat} {a d c f : Int} : (penS S p q a d c f).length = S.length := by unfold penS; simp
theorem penS_other {p q r : Nat} {a d c f : Int} (h : r ≠ p) : (penS S p q a d c f)[r]? = S[r]? := by
  unfold penS; rw [List.getElem?_set_ne (Ne.symm h)]
theorem penS_self {p q : Nat} {a d c f : Int} (h : S[p]? = some (.dct (penC q a d c f))) : S = penS S p q a d c f := by
  unfold penS
  apply List.ext_getElem?
  intro i
  by_cases hi : i = p
  · subst hi
    rw [List.getElem?_set_self (List.getElem?_eq_some_iff.mp h).1, h]
  · rw [List.getElem?_set_ne (Ne.symm hi)]
/-- a pen stands at p -/
def PenAt (p q : Nat) (S : Store) : Prop := ∃ (a d c f : Int) (cells : List Int), q ≠ p ∧ S[p]? = some (.dct (penC q a d c f)) ∧ S[q]? = some (.lst (cells.map .int)) ∧ 0 ≤ a ∧ 0 ≤ d
theorem PenAt.lt {p q : Nat} (h : PenAt p q S) : p < S.length ∧ q < S.length := by
  obtain ⟨_, _, _, _, _, _, h, h2, _⟩ := h
  exact ⟨(List.getElem?_eq_some_iff.mp h).1, (List.getElem?_eq_some_iff.mp h2).1⟩
/-- behind a draw -/
def Drawn (p q : Nat) (S S' : Store) : Prop := PenAt p q S' ∧ ∃ c, S' = S.set p c
theorem atI_int {cells : List Int} {a : Int} (h0 : 0 ≤ a) (h1 : a < (cells.map D.int).length) : ∃ z, atI (cells.map D.int) a = some (.int z) := by
  rw [List.length_map] at h1
  refine ⟨cells[a.toNat]'(by omega), ?_⟩
  have := atI_nat (xs := cells.map D.int) (n := a.toNat) (d := .int (cells[a.toNat]'(by omega))) (by rw [List.getElem?_map, List.getElem?_eq_getElem (by omega)]; rfl)
  have e : ((a.toNat : Nat) : Int) = a := by omega
  rwa [e] at this
theorem pow18 : powOk 10 18 := by decide
theorem fdivOk {j : Int} (h : 1 ≤ j) (h2 : j < 2 ^ 64) : divOk j := by
  have := divOk_nat (n := j.toNat) (by omega) (by omega)
  have e : ((j.toNat : Nat) : Int) = j := by omega
  rwa [e] at this
theorem fdiv_nn {a b : Int} (h : 0 ≤ a) (h2 : 1 ≤ b) : 0 ≤ a.fdiv b := by
  rw [Int.fdiv_eq_ediv_of_nonneg _ (by omega)]
  exact Int.ediv_nonneg h (by omega)
/-- the tail of draw: behind the step of the script -/
theorem drawn_end {p q : Nat} {a d c f : Int} {cells : List Int} {a0 d0 c0 f0 : Int} (hq : q ≠ p) (hS : S[p]? = some (.dct (penC q a0 d0 c0 f0))) (hc : S[q]? = some (.lst (cells.map .int))) (h1 : 0 ≤ a) (h2 : 0 ≤ d) : Drawn p q S (penS S p q a d c f) :=
  ⟨⟨a, d, c, f, cells, hq, penS_at (List.getElem?_eq_some_iff.mp hS).1, by rw [penS_other hq]; exact hc, h1, h2⟩, _, rfl⟩
theorem e_draw {p q : Nat} {many : Int} (h : PenAt p q S) (hm : 1 ≤ many) (hm2 : many < 2 ^ 64) : PM ((CC (k + 1)).fn 54 [.ref p, .int many]) S fun r S' => (∃ i, r = .int i ∧ 0 ≤ i ∧ i < many) ∧ Drawn p q S S' := by
  refine PM_fn rfl rfl rfl ?_
  obtain ⟨a, d, c, f, cells, hq, hS, hc, ha, hd⟩ := h
  have hp := (List.getElem?_eq_some_iff.mp hS).1
  have fin : ∀ (a d c f i : Int), 0 ≤ a → 0 ≤ d → 0 ≤ i → i < many → ((0 ≤ i ∧ i < many) ∧ Drawn p q S (dropR S (.int i) (penS S p q a d c f))) := fun a d c f i h1 h2 h3 h4 => by
    rw [dropR_len (by rw [penS_len]; exact Nat.le_refl _)]
    exact ⟨⟨h3, h4⟩, drawn_end hq hS hc h1 h2⟩
  -- the second half
  have half : ∀ (a d c f : Int) (cell dg bl : Option D), 0 ≤ a → 0 ≤ d → PZ ((sSeq (sIf (tCmp cGt (eOp oIx (eSlot 0) (eC (.str "digits"))) (eC (.int 0))) (sSeq (sAsg (gOne 3) (eOp oMod (eUn fInt (eOp oIx (eSlot 0) (eC (.str "digits")))) (eSlot 1)))
      (sSeq (sAsg (gSubS (eSlot 0) (eC (.str "digits"))) (eOp oFdiv (eOp oIx (eSlot 0) (eC (.str "digits"))) (eSlot 1)))
      (sRet (eSlot 3)))) sNx)
      (sSeq (sAsg (gOne 4) (eOp oMod (eUn fInt (eOp oAdd (eOp oAdd (eOp oMul (eOp oIx (eSlot 0) (eC (.str "fold"))) (eC (.int 48271))) (eOp oMul (eOp oIx (eSlot 0) (eC (.str "count"))) (eC (.int 7919)))) (eC (.int 13)))) (eC (.int 2147483647))))
      (sSeq (sAsg (gOne 4) (eOp oMod (eUn fInt (eOp oAdd (eOp oAdd (eOp oMul (eSlot 4) (eSlot 4)) (eOp oMul (eC (.int 31)) (eSlot 4))) (eOp oIx (eSlot 0) (eC (.str "count"))))) (eC (.int 2147483629))))
      (sSeq (sAsg (gSubS (eSlot 0) (eC (.str "fold"))) (eOp oMod (eUn fInt (eOp oAdd (eOp oMul (eSlot 4) (eC (.int 16807))) (eC (.int 7)))) (eC (.int 2147483647))))
      (sRet (eOp oMod (eUn fInt (eOp oFdiv (eSlot 4) (eC (.int 64)))) (eSlot 1)))))))) [some (.ref p), some (.int many), cell, dg, bl] (penS S p q a d c f)
      (fun r => match r with
      | .rt d S' => (∃ i, d = .int i ∧ 0 ≤ i ∧ i < many) ∧ Drawn p q S (dropR S d S')
      | .nx _ S' => (∃ i, D.non = .int i ∧ 0 ≤ i ∧ i < many) ∧ Drawn p q S (dropR S .non S')
      | _ => False) := by
    intro a d c f cell dg bl h1 h2
    have hmn : many ≠ 0 := by omega
    by_cases hd0 : 0 < d
    · simp only [PM_ret, PM_bind, PM_guard, PM_slot', PM_eC, PM_eOp, PM_eUn, PM_eT, PM_tV, PM_eAnd, PM_eOr, PM_tAnd, PM_tOr, PM_tNot, PM_eIf, PM_tIf, PM_tCmp, PM_tChn, PM_last, PM_more, PM_aNil, PM_aCons, PM_eTup, PM_eLst, PM_eCall, PM_eNew, PM_eDrop, PM_add, PM_sub, PM_mul, PM_fdiv, PM_mod, PM_pow, PM_neg, PM_lt, PM_le, PM_gt, PM_ge, PM_eqi, PM_nei, own_int, own_bl, own_tup, own_str, PM_isNon, PM_isBl, PM_isnot, PM_tbl, PM_tint, PM_tnon, PM_ttup, PM_lenT, PM_lenF, PM_int, PM_abs, PM_tupT, PM_lstF, PM_ixT, PM_eM, PM_iSeq, PM_seqT, PM_seqF, PM_rng1, PM_rng2, PM_enum, PZ_bind, PZ_nx, PZ_bk, PZ_ct, PZ_rt, SQ_nx, SQ_rt, SQ_ct, SQ_bk, TQ_nx, TQ_ct, TQ_bk, TQ_rt, PZ_seq, PZ_ret, PZ_drop, PZ_if, PZ_asg, PZ_one, PZ_par, PZ_allN, PZ_allC, PZ_tup, PZ_sub, PZ_fld, PZ_for, List.getElem?_cons_zero, List.getElem?_cons_succ, Option.some.injEq, exists_eq_left', exists_eq_left, List.set_cons_zero, List.set_cons_succ, setAll, List.length_cons, List.length_nil, List.map_cons, List.map_nil, Nat.reduceAdd, Nat.reduceSub, List.replicate, List.cons_append, List.nil_append, true_and, and_true, Bool.not_true, Bool.not_false, if_true, if_false, Bool.false_eq_true, D.int.injEq, D.isNon, D.isBl, Nat.reduceLeDiff, dropR_len, Nat.le_refl, ite_true, ite_false, reduceCtorEq, pg_digits hp, pp_digits hp, decide_eq_true hd0, fdivOk hm hm2, hmn, ne_eq, not_false_eq_true]
      exact fin _ _ _ _ _ h1 (fdiv_nn h2 hm) (Int.fmod_nonneg_of_pos _ (by omega)) (Int.fmod_lt_of_pos _ (by omega))
    · have m1 : mulOk f 48271 := mulOk_r (by decide) (by decide)
      have m2 : mulOk c 7919 := mulOk_r (by decide) (by decide)
      have z1 : ¬ (2147483647 : Int) = 0 := by decide
      have z2 : ¬ (2147483629 : Int) = 0 := by decide
      have z3 : divOk 64 := by decide
      simp only [PM_ret, PM_bind, PM_guard, PM_slot', PM_eC, PM_eOp, PM_eUn, PM_eT, PM_tV, PM_eAnd, PM_eOr, PM_tAnd, PM_tOr, PM_tNot, PM_eIf, PM_tIf, PM_tCmp, PM_tChn, PM_last, PM_more, PM_aNil, PM_aCons, PM_eTup, PM_eLst, PM_eCall, PM_eNew, PM_eDrop, PM_add, PM_sub, PM_mul, PM_fdiv, PM_mod, PM_pow, PM_neg, PM_lt, PM_le, PM_gt, PM_ge, PM_eqi, PM_nei, own_int, own_bl, own_tup, own_str, PM_isNon, PM_isBl, PM_isnot, PM_tbl, PM_tint, PM_tnon, PM_ttup, PM_lenT, PM_lenF, PM_int, PM_abs, PM_tupT, PM_lstF, PM_ixT, PM_eM, PM_iSeq, PM_seqT, PM_seqF, PM_rng1, PM_rng2, PM_enum, PZ_bind, PZ_nx, PZ_bk, PZ_ct, PZ_rt, SQ_nx, SQ_rt, SQ_ct, SQ_bk, TQ_nx, TQ_ct, TQ_bk, TQ_rt, PZ_seq, PZ_ret, PZ_drop, PZ_if, PZ_asg, PZ_one, PZ_par, PZ_allN, PZ_allC, PZ_tup, PZ_sub, PZ_fld, PZ_for, List.getElem?_cons_zero, List.getElem?_cons_succ, Option.some.injEq, exists_eq_left', exists_eq_left, List.set_cons_zero, List.set_cons_succ, setAll, List.length_cons, List.length_nil, List.map_cons, List.map_nil, Nat.reduceAdd, Nat.reduceSub, List.replicate, List.cons_append, List.nil_append, true_and, and_true, Bool.not_true, Bool.not_false, if_true, if_false, Bool.false_eq_true, D.int.injEq, D.isNon, D.isBl, Nat.reduceLeDiff, dropR_len, Nat.le_refl, ite_true, ite_false, reduceCtorEq, pg_digits hp, pg_fold hp, pg_count hp, decide_eq_false hd0, m1, m2, z1, z2, z3, ne_eq, not_false_eq_true]
      generalize hb : (f * 48271 + c * 7919 + 13).fmod 2147483647 = bb
      have b1 : 0 ≤ bb := by rw [← hb]; exact Int.fmod_nonneg_of_pos _ (by decide)
      have b2 : bb < 2147483647 := by rw [← hb]; exact Int.fmod_lt_of_pos _ (by decide)
      have m3 : mulOk bb bb := mulOk_r (by omega) (by omega)
      have m4 : mulOk 31 bb := mulOk_r (by omega) (by omega)
      have m5 : mulOk ((bb * bb + 31 * bb + c).fmod 2147483629) 16807 := mulOk_r (by decide) (by decide)
      simp only [m3, m4, m5, PM_ret, PM_bind, PM_guard, PM_slot', PM_eC, PM_eOp, PM_eUn, PM_eT, PM_tV, PM_eAnd, PM_eOr, PM_tAnd, PM_tOr, PM_tNot, PM_eIf, PM_tIf, PM_tCmp, PM_tChn, PM_last, PM_more, PM_aNil, PM_aCons, PM_eTup, PM_eLst, PM_eCall, PM_eNew, PM_eDrop, PM_add, PM_sub, PM_mul, PM_fdiv, PM_mod, PM_pow, PM_neg, PM_lt, PM_le, PM_gt, PM_ge, PM_eqi, PM_nei, own_int, own_bl, own_tup, own_str, PM_isNon, PM_isBl, PM_isnot, PM_tbl, PM_tint, PM_tnon, PM_ttup, PM_lenT, PM_lenF, PM_int, PM_abs, PM_tupT, PM_lstF, PM_ixT, PM_eM, PM_iSeq, PM_seqT, PM_seqF, PM_rng1, PM_rng2, PM_enum, PZ_bind, PZ_nx, PZ_bk, PZ_ct, PZ_rt, SQ_nx, SQ_rt, SQ_ct, SQ_bk, TQ_nx, TQ_ct, TQ_bk, TQ_rt, PZ_seq, PZ_ret, PZ_drop, PZ_if, PZ_asg, PZ_one, PZ_par, PZ_allN, PZ_allC, PZ_tup, PZ_sub, PZ_fld, PZ_for, List.getElem?_cons_zero, List.getElem?_cons_succ, Option.some.injEq, exists_eq_left', exists_eq_left, List.set_cons_zero, List.set_cons_succ, setAll, List.length_cons, List.length_nil, List.map_cons, List.map_nil, Nat.reduceAdd, Nat.reduceSub, List.replicate, List.cons_append, List.nil_append, true_and, and_true, Bool.not_true, Bool.not_false, if_true, if_false, Bool.false_eq_true, D.int.injEq, D.isNon, D.isBl, Nat.reduceLeDiff, dropR_len, Nat.le_refl, ite_true, ite_false, reduceCtorEq, pp_fold hp, hmn]
      exact ⟨fun z => z, fin _ _ _ _ _ h1 h2 (Int.fmod_nonneg_of_pos _ (by omega)) (Int.fmod_lt_of_pos _ (by omega))⟩
  have e := penS_self hS
  have hqc : ∀ {a d c f : Int}, (penS S p q a d c f)[q]? = some (.lst (cells.map .int)) := fun {a d c f} => by rw [penS_other hq]; exact hc
  have start : PZ (b__law_draw (CC k)) [some (.ref p), some (.int many), none, none, none] (penS S p q a d c f) (fun r => match r with
      | .rt d S' => (∃ i, d = .int i ∧ 0 ≤ i ∧ i < many) ∧ Drawn p q S (dropR S d S')
      | .nx _ S' => (∃ i, D.non = .int i ∧ 0 ≤ i ∧ i < many) ∧ Drawn p q S (dropR S .non S')
      | _ => False) := by
    unfold b__law_draw
    rw [PZ_seq]
    simp only [PZ_asg, PM_eOp, PM_eC, PM_slot', PZ_sub, SQ_nx, List.getElem?_cons_zero, Option.some.injEq, exists_eq_left', exists_eq_left, pg_count hp, pp_count hp, PM_add]
    rw [PZ_seq]
    generalize hK : SQ _ _ = K
    have half2 : ∀ (a d c f : Int) (cell dg bl : Option D), 0 ≤ a → 0 ≤ d → K (.nx [some (.ref p), some (.int many), cell, dg, bl] (penS S p q a d c f)) := fun a d c f cell dg bl h1 h2 => by
      rw [← hK]; exact half a d c f cell dg bl h1 h2
    by_cases hd0 : d = 0
    · by_cases ha1 : a < (cells.map D.int).length
      · obtain ⟨z, hz⟩ := atI_int ha ha1
        have hp1 : mulOk f 69069 := mulOk_r (by decide) (by decide)
        have z1 : ¬ (2147483587 : Int) = 0 := by decide
        have e18 : (10 : Int) ^ (18 : Int).toNat = 1000000000000000000 := by decide
        by_cases hz18 : (1000000000000000000 : Int) ≤ z
        · simp only [PM_ret, PM_bind, PM_guard, PM_slot', PM_eC, PM_eOp, PM_eUn, PM_eT, PM_tV, PM_eAnd, PM_eOr, PM_tAnd, PM_tOr, PM_tNot, PM_eIf, PM_tIf, PM_tCmp, PM_tChn, PM_last, PM_more, PM_aNil, PM_aCons, PM_eTup, PM_eLst, PM_eCall, PM_eNew, PM_eDrop, PM_add, PM_sub, PM_mul, PM_fdiv, PM_mod, PM_pow, PM_neg, PM_lt, PM_le, PM_gt, PM_ge, PM_eqi, PM_nei, own_int, own_bl, own_tup, own_str, PM_isNon, PM_isBl, PM_isnot, PM_tbl, PM_tint, PM_tnon, PM_ttup, PM_lenT, PM_lenF, PM_int, PM_abs, PM_tupT, PM_lstF, PM_ixT, PM_eM, PM_iSeq, PM_seqT, PM_seqF, PM_rng1, PM_rng2, PM_enum, PZ_bind, PZ_nx, PZ_bk, PZ_ct, PZ_rt, SQ_nx, SQ_rt, SQ_ct, SQ_bk, TQ_nx, TQ_ct, TQ_bk, TQ_rt, PZ_seq, PZ_ret, PZ_drop, PZ_if, PZ_asg, PZ_one, PZ_par, PZ_allN, PZ_allC, PZ_tup, PZ_sub, PZ_fld, PZ_for, List.getElem?_cons_zero, List.getElem?_cons_succ, Option.some.injEq, exists_eq_left', exists_eq_left, List.set_cons_zero, List.set_cons_succ, setAll, List.length_cons, List.length_nil, List.map_cons, List.map_nil, Nat.reduceAdd, Nat.reduceSub, List.replicate, List.cons_append, List.nil_append, true_and, and_true, Bool.not_true, Bool.not_false, if_true, if_false, Bool.false_eq_true, D.int.injEq, D.isNon, D.isBl, Nat.reduceLeDiff, dropR_len, Nat.le_refl, ite_true, ite_false, reduceCtorEq, pg_digits hp, pg_at hp, pg_cells hp, pp_at hp, pp_digits hp, decide_eq_true hd0, PM_lenL hqc, decide_eq_true ha1, PM_ixL hqc, hz, pow18, e18, decide_eq_true hz18]
          exact half2 _ _ _ _ _ _ _ (by omega) (by omega)
        · simp only [PM_ret, PM_bind, PM_guard, PM_slot', PM_eC, PM_eOp, PM_eUn, PM_eT, PM_tV, PM_eAnd, PM_eOr, PM_tAnd, PM_tOr, PM_tNot, PM_eIf, PM_tIf, PM_tCmp, PM_tChn, PM_last, PM_more, PM_aNil, PM_aCons, PM_eTup, PM_eLst, PM_eCall, PM_eNew, PM_eDrop, PM_add, PM_sub, PM_mul, PM_fdiv, PM_mod, PM_pow, PM_neg, PM_lt, PM_le, PM_gt, PM_ge, PM_eqi, PM_nei, own_int, own_bl, own_tup, own_str, PM_isNon, PM_isBl, PM_isnot, PM_tbl, PM_tint, PM_tnon, PM_ttup, PM_lenT, PM_lenF, PM_int, PM_abs, PM_tupT, PM_lstF, PM_ixT, PM_eM, PM_iSeq, PM_seqT, PM_seqF, PM_rng1, PM_rng2, PM_enum, PZ_bind, PZ_nx, PZ_bk, PZ_ct, PZ_rt, SQ_nx, SQ_rt, SQ_ct, SQ_bk, TQ_nx, TQ_ct, TQ_bk, TQ_rt, PZ_seq, PZ_ret, PZ_drop, PZ_if, PZ_asg, PZ_one, PZ_par, PZ_allN, PZ_allC, PZ_tup, PZ_sub, PZ_fld, PZ_for, List.getElem?_cons_zero, List.getElem?_cons_succ, Option.some.injEq, exists_eq_left', exists_eq_left, List.set_cons_zero, List.set_cons_succ, setAll, List.length_cons, List.length_nil, List.map_cons, List.map_nil, Nat.reduceAdd, Nat.reduceSub, List.replicate, List.cons_append, List.nil_append, true_and, and_true, Bool.not_true, Bool.not_false, if_true, if_false, Bool.false_eq_true, D.int.injEq, D.isNon, D.isBl, Nat.reduceLeDiff, dropR_len, Nat.le_refl, ite_true, ite_false, reduceCtorEq, pg_digits hp, pg_at hp, pg_cells hp, pg_fold hp, pp_at hp, pp_fold hp, decide_eq_true hd0, PM_lenL hqc, decide_eq_true ha1, PM_ixL hqc, hz, pow18, e18, decide_eq_false hz18, hp1, z1, ne_eq, not_false_eq_true]
          exact half2 _ _ _ _ _ _ _ (by omega) hd
      · simp only [PM_ret, PM_bind, PM_guard, PM_slot', PM_eC, PM_eOp, PM_eUn, PM_eT, PM_tV, PM_eAnd, PM_eOr, PM_tAnd, PM_tOr, PM_tNot, PM_eIf, PM_tIf, PM_tCmp, PM_tChn, PM_last, PM_more, PM_aNil, PM_aCons, PM_eTup, PM_eLst, PM_eCall, PM_eNew, PM_eDrop, PM_add, PM_sub, PM_mul, PM_fdiv, PM_mod, PM_pow, PM_neg, PM_lt, PM_le, PM_gt, PM_ge, PM_eqi, PM_nei, own_int, own_bl, own_tup, own_str, PM_isNon, PM_isBl, PM_isnot, PM_tbl, PM_tint, PM_tnon, PM_ttup, PM_lenT, PM_lenF, PM_int, PM_abs, PM_tupT, PM_lstF, PM_ixT, PM_eM, PM_iSeq, PM_seqT, PM_seqF, PM_rng1, PM_rng2, PM_enum, PZ_bind, PZ_nx, PZ_bk, PZ_ct, PZ_rt, SQ_nx, SQ_rt, SQ_ct, SQ_bk, TQ_nx, TQ_ct, TQ_bk, TQ_rt, PZ_seq, PZ_ret, PZ_drop, PZ_if, PZ_asg, PZ_one, PZ_par, PZ_allN, PZ_allC, PZ_tup, PZ_sub, PZ_fld, PZ_for, List.getElem?_cons_zero, List.getElem?_cons_succ, Option.some.injEq, exists_eq_left', exists_eq_left, List.set_cons_zero, List.set_cons_succ, setAll, List.length_cons, List.length_nil, List.map_cons, List.map_nil, Nat.reduceAdd, Nat.reduceSub, List.replicate, List.cons_append, List.nil_append, true_and, and_true, Bool.not_true, Bool.not_false, if_true, if_false, Bool.false_eq_true, D.int.injEq, D.isNon, D.isBl, Nat.reduceLeDiff, dropR_len, Nat.le_refl, ite_true, ite_false, reduceCtorEq, pg_digits hp, pg_at hp, pg_cells hp, decide_eq_true hd0, PM_lenL hqc, decide_eq_false ha1]
        exact half2 _ _ _ _ _ _ _ ha hd
    · simp only [PM_ret, PM_bind, PM_guard, PM_slot', PM_eC, PM_eOp, PM_eUn, PM_eT, PM_tV, PM_eAnd, PM_eOr, PM_tAnd, PM_tOr, PM_tNot, PM_eIf, PM_tIf, PM_tCmp, PM_tChn, PM_last, PM_more, PM_aNil, PM_aCons, PM_eTup, PM_eLst, PM_eCall, PM_eNew, PM_eDrop, PM_add, PM_sub, PM_mul, PM_fdiv, PM_mod, PM_pow, PM_neg, PM_lt, PM_le, PM_gt, PM_ge, PM_eqi, PM_nei, own_int, own_bl, own_tup, own_str, PM_isNon, PM_isBl, PM_isnot, PM_tbl, PM_tint, PM_tnon, PM_ttup, PM_lenT, PM_lenF, PM_int, PM_abs, PM_tupT, PM_lstF, PM_ixT, PM_eM, PM_iSeq, PM_seqT, PM_seqF, PM_rng1, PM_rng2, PM_enum, PZ_bind, PZ_nx, PZ_bk, PZ_ct, PZ_rt, SQ_nx, SQ_rt, SQ_ct, SQ_bk, TQ_nx, TQ_ct, TQ_bk, TQ_rt, PZ_seq, PZ_ret, PZ_drop, PZ_if, PZ_asg, PZ_one, PZ_par, PZ_allN, PZ_allC, PZ_tup, PZ_sub, PZ_fld, PZ_for, List.getElem?_cons_zero, List.getElem?_cons_succ, Option.some.injEq, exists_eq_left', exists_eq_left, List.set_cons_zero, List.set_cons_succ, setAll, List.length_cons, List.length_nil, List.map_cons, List.map_nil, Nat.reduceAdd, Nat.reduceSub, List.replicate, List.cons_append, List.nil_append, true_and, and_true, Bool.not_true, Bool.not_false, if_true, if_false, Bool.false_eq_true, D.int.injEq, D.isNon, D.isBl, Nat.reduceLeDiff, dropR_len, Nat.le_refl, ite_true, ite_false, reduceCtorEq, pg_digits hp, decide_eq_false hd0]
      exact half2 _ _ _ _ _ _ _ ha hd
  rw [← e] at start
  exact start
end
section
variable {k : Nat} {S : Store} {Q : D → Store → Prop} {B : Bool → Store → Prop}
theorem Drawn.other {p q r : Nat} {S' : Store} (h : Drawn p q S S') (hr : r ≠ p) : S'[r]? = S[r]? := by
  obtain ⟨_, c, rfl⟩ := h
  rw [List.getElem?_set_ne (Ne.symm hr)]
theorem Drawn.len {p q : Nat} {S' : Store} (h : Drawn p q S S') : S'.length = S.length := by
  obtain ⟨_, c, rfl⟩ := h; simp
theorem PenAt.ap {p q : Nat} {c : List Cell} (h : PenAt p q S) : PenAt p q (S ++ c) := by
  obtain ⟨a, d, e, f, cells, h1, h2, h3, h4⟩ := h
  exact ⟨a, d, e, f, cells, h1, by rw [List.getElem?_append_left (List.getElem?_eq_some_iff.mp h2).1]; exact h2, by rw [List.getElem?_append_left (List.getElem?_eq_some_iff.mp h3).1]; exact h3, h4⟩
theorem PenAt.take {p q n : Nat} (h : PenAt p q S) (hp : p < n) (hq : q < n) : PenAt p q (S.take n) := by
  obtain ⟨a, d, e, f, cells, h1, h2, h3, h4⟩ := h
  exact ⟨a, d, e, f, cells, h1, by rw [List.getElem?_take, if_pos hp]; exact h2, by rw [List.getElem?_take, if_pos hq]; exact h3, h4⟩
theorem PenAt.set {p q r : Nat} {c : Cell} (h : PenAt p q S) (h1 : r ≠ p) (h2 : r ≠ q) : PenAt p q (S.set r c) := by
  obtain ⟨a, d, e, f, cells, g1, g2, g3, g4⟩ := h
  exact ⟨a, d, e, f, cells, g1, by rw [List.getElem?_set_ne h1]; exact g2, by rw [List.getElem?_set_ne h2]; exact g3, g4⟩
theorem PenAt.drop {p q : Nat} {S' : Store} {d : D} (h : PenAt p q S') (h0 : PenAt p q S) : PenAt p q (dropR S d S') := by
  unfold dropR
  split
  · exact h
  · split
    · exact h.take h0.lt.1 h0.lt.2
    · exact h
/-- any list is what it is against [] -/
theorem PM_eqNil {r r2 : Nat} {xs : List D} {ps : List PyData} (h : S[r]? = some (.lst xs)) (h2 : S[r2]? = some (.lst [])) (hp : toPs xs = some ps) : PM (cEq (.ref r) (.ref r2)) S B ↔ B xs.isEmpty S := by
  refine PM_of ?_
  have e1 : toPS S (.ref r) = some (.list ps) := by
    show (match S[r]? with
      | some (.lst xs) => (toPs xs).map PyData.list
      | _ => none) = _
    rw [h]; show (toPs xs).map PyData.list = _; rw [hp]; rfl
  have e2 : toPS S (.ref r2) = some (.list []) := by
    show (match S[r2]? with
      | some (.lst xs) => (toPs xs).map PyData.list
      | _ => none) = _
    rw [h2]; rfl
  unfold cEq
  rw [e1, e2]
  simp only
  rw [if_pos (Nat.le_trans (Nat.min_le_right _ _) (by decide))]
  have e3 : PyData.eqv (.list ps) (.list []) = xs.isEmpty := by
    cases xs with
    | nil => cases hp; rfl
    | cons x xs =>
      cases ps with
      | nil =>
        unfold toPs at hp
        split at hp <;> cases hp
      | cons q qs => rfl
  rw [e3]
theorem e_pick {p q r : Nat} {xs : List D} (h : PenAt p q S) (hr : S[r]? = some (.lst xs)) (hrp : r ≠ p) (h1 : 1 ≤ xs.length) (h2 : xs.length < 2 ^ 60) : PM ((CC (k + 2)).fn 55 [.ref p, .ref r]) S fun d S' => d ∈ xs ∧ Drawn p q S S' := by
  refine PM_fn rfl rfl rfl ?_
  unfold b__law_pick
  simp only [PM_ret, PM_bind, PM_guard, PM_slot', PM_eC, PM_eOp, PM_eUn, PM_eT, PM_tV, PM_eAnd, PM_eOr, PM_tAnd, PM_tOr, PM_tNot, PM_eIf, PM_tIf, PM_tCmp, PM_tChn, PM_last, PM_more, PM_aNil, PM_aCons, PM_eTup, PM_eLst, PM_eCall, PM_eNew, PM_eDrop, PM_add, PM_sub, PM_mul, PM_fdiv, PM_mod, PM_pow, PM_neg, PM_lt, PM_le, PM_gt, PM_ge, PM_eqi, PM_nei, own_int, own_bl, own_tup, own_str, PM_isNon, PM_isBl, PM_isnot, PM_tbl, PM_tint, PM_tnon, PM_ttup, PM_lenT, PM_lenF, PM_int, PM_abs, PM_tupT, PM_lstF, PM_ixT, PM_eM, PM_iSeq, PM_seqT, PM_seqF, PM_rng1, PM_rng2, PM_enum, PZ_bind, PZ_nx, PZ_bk, PZ_ct, PZ_rt, SQ_nx, SQ_rt, SQ_ct, SQ_bk, TQ_nx, TQ_ct, TQ_bk, TQ_rt, PZ_seq, PZ_ret, PZ_drop, PZ_if, PZ_asg, PZ_one, PZ_par, PZ_allN, PZ_allC, PZ_tup, PZ_sub, PZ_fld, PZ_for, List.getElem?_cons_zero, List.getElem?_cons_succ, Option.some.injEq, exists_eq_left', exists_eq_left, List.set_cons_zero, List.set_cons_succ, setAll, List.length_cons, List.length_nil, List.map_cons, List.map_nil, Nat.reduceAdd, Nat.reduceSub, List.replicate, List.cons_append, List.nil_append, true_and, and_true, Bool.not_true, Bool.not_false, if_true, if_false, Bool.false_eq_true, D.int.injEq, D.isNon, D.isBl, Nat.reduceLeDiff, dropR_len, Nat.le_refl, ite_true, ite_false, reduceCtorEq, PM_lenL hr]
  refine (e_draw (k := k) (S := S) (p := p) (q := q) (many := (xs.length : Int)) h (by omega) (by omega)).imp ?_
  rintro d S' ⟨⟨i, rfl, i1, i2⟩, hd⟩
  have hr' : S'[r]? = some (.lst xs) := by rw [hd.other hrp]; exact hr
  have hx : ∃ x, xs[i.toNat]? = some x := ⟨_, List.getElem?_eq_getElem (by omega)⟩
  obtain ⟨x, hx⟩ := hx
  have ha : atI xs i = some x := by
    have := atI_nat hx
    have e : ((i.toNat : Nat) : Int) = i := by omega
    rwa [e] at this
  simp only [PM_ret, PM_bind, PM_guard, PM_slot', PM_eC, PM_eOp, PM_eUn, PM_eT, PM_tV, PM_eAnd, PM_eOr, PM_tAnd, PM_tOr, PM_tNot, PM_eIf, PM_tIf, PM_tCmp, PM_tChn, PM_last, PM_more, PM_aNil, PM_aCons, PM_eTup, PM_eLst, PM_eCall, PM_eNew, PM_eDrop, PM_add, PM_sub, PM_mul, PM_fdiv, PM_mod, PM_pow, PM_neg, PM_lt, PM_le, PM_gt, PM_ge, PM_eqi, PM_nei, own_int, own_bl, own_tup, own_str, PM_isNon, PM_isBl, PM_isnot, PM_tbl, PM_tint, PM_tnon, PM_ttup, PM_lenT, PM_lenF, PM_int, PM_abs, PM_tupT, PM_lstF, PM_ixT, PM_eM, PM_iSeq, PM_seqT, PM_seqF, PM_rng1, PM_rng2, PM_enum, PZ_bind, PZ_nx, PZ_bk, PZ_ct, PZ_rt, SQ_nx, SQ_rt, SQ_ct, SQ_bk, TQ_nx, TQ_ct, TQ_bk, TQ_rt, PZ_seq, PZ_ret, PZ_drop, PZ_if, PZ_asg, PZ_one, PZ_par, PZ_allN, PZ_allC, PZ_tup, PZ_sub, PZ_fld, PZ_for, List.getElem?_cons_zero, List.getElem?_cons_succ, Option.some.injEq, exists_eq_left', exists_eq_left, List.set_cons_zero, List.set_cons_succ, setAll, List.length_cons, List.length_nil, List.map_cons, List.map_nil, Nat.reduceAdd, Nat.reduceSub, List.replicate, List.cons_append, List.nil_append, true_and, and_true, Bool.not_true, Bool.not_false, if_true, if_false, Bool.false_eq_true, D.int.injEq, D.isNon, D.isBl, Nat.reduceLeDiff, dropR_len, Nat.le_refl, ite_true, ite_false, reduceCtorEq, PM_ixL hr', ha]
  rw [dropR_len (by rw [hd.len]; exact Nat.le_refl _)]
  exact ⟨List.mem_of_getElem? hx, hd⟩
theorem e_is {a b : Bool} : (CC (k + 1)).fn 57 [.bl a, .bl b] S = some (.ok (.bl (a == b)) S) := by
  refine fn_eq (PM_fn rfl rfl rfl ?_)
  unfold b__law_is
  cases a <;> cases b <;> simp only [PM_ret, PM_bind, PM_guard, PM_slot', PM_eC, PM_eOp, PM_eUn, PM_eT, PM_tV, PM_eAnd, PM_eOr, PM_tAnd, PM_tOr, PM_tNot, PM_eIf, PM_tIf, PM_tCmp, PM_tChn, PM_last, PM_more, PM_aNil, PM_aCons, PM_eTup, PM_eLst, PM_eCall, PM_eNew, PM_eDrop, PM_add, PM_sub, PM_mul, PM_fdiv, PM_mod, PM_pow, PM_neg, PM_lt, PM_le, PM_gt, PM_ge, PM_eqi, PM_nei, own_int, own_bl, own_tup, own_str, PM_isNon, PM_isBl, PM_isnot, PM_tbl, PM_tint, PM_tnon, PM_ttup, PM_lenT, PM_lenF, PM_int, PM_abs, PM_tupT, PM_lstF, PM_ixT, PM_eM, PM_iSeq, PM_seqT, PM_seqF, PM_rng1, PM_rng2, PM_enum, PZ_bind, PZ_nx, PZ_bk, PZ_ct, PZ_rt, SQ_nx, SQ_rt, SQ_ct, SQ_bk, TQ_nx, TQ_ct, TQ_bk, TQ_rt, PZ_seq, PZ_ret, PZ_drop, PZ_if, PZ_asg, PZ_one, PZ_par, PZ_allN, PZ_allC, PZ_tup, PZ_sub, PZ_fld, PZ_for, List.getElem?_cons_zero, List.getElem?_cons_succ, Option.some.injEq, exists_eq_left', exists_eq_left, List.set_cons_zero, List.set_cons_succ, setAll, List.length_cons, List.length_nil, List.map_cons, List.map_nil, Nat.reduceAdd, Nat.reduceSub, List.replicate, List.cons_append, List.nil_append, true_and, and_true, Bool.not_true, Bool.not_false, if_true, if_false, Bool.false_eq_true, D.int.injEq, D.isNon, D.isBl, Nat.reduceLeDiff, dropR_len, Nat.le_refl, ite_true, ite_false, reduceCtorEq, PM_isiN, PM_isiB, PM_isiI, PM_isiS, PM_isiT, isT_ty, bs_NoneType_NoneType, bs_NoneType_bool, bs_NoneType_int, bs_NoneType_str, bs_NoneType_list, bs_NoneType_tuple, bs_NoneType_dict, bs_bool_NoneType, bs_bool_bool, bs_bool_int, bs_bool_str, bs_bool_list, bs_bool_tuple, bs_bool_dict, bs_int_NoneType, bs_int_bool, bs_int_int, bs_int_str, bs_int_list, bs_int_tuple, bs_int_dict, bs_str_NoneType, bs_str_bool, bs_str_int, bs_str_str, bs_str_list, bs_str_tuple, bs_str_dict, bs_list_NoneType, bs_list_bool, bs_list_int, bs_list_str, bs_list_list, bs_list_tuple, bs_list_dict, bs_tuple_NoneType, bs_tuple_bool, bs_tuple_int, bs_tuple_str, bs_tuple_list, bs_tuple_tuple, bs_tuple_dict, bs_dict_NoneType, bs_dict_bool, bs_dict_int, bs_dict_str, bs_dict_list, bs_dict_tuple, bs_dict_dict] <;> simp
end
section
variable {k : Nat} {S : Store} {ρ : En} {Q : D → Store → Prop} {B : Bool → Store → Prop}
theorem PM_eDct {ps : List (Ev × Ev)} : PM (eDct ps ρ) S Q ↔ PM (dPairs ps ρ) (S ++ [.dct []]) fun l S' => PM (fillD S.length l) S' Q :=
  (show PM (eDct ps ρ) S Q ↔ PM (M.bind (dPairs ps ρ) (fillD S.length)) (S ++ [.dct []]) Q from Iff.rfl).trans PM_bind
theorem PM_pairs {kx vx : Ev} {r : List (Ev × Ev)} {J : List (Key × D) → Store → Prop} : PM (dPairs ((kx, vx) :: r) ρ) S J ↔ PM (kx ρ) S fun x S1 => PM (vx ρ) S1 fun y S2 => ∃ kk, keyD x = some kk ∧ PM (dPairs r ρ) S2 fun l S3 => J ((kk, y) :: l) S3 := by
  conv => lhs; unfold dPairs
  rw [PM_bind]
  simp only [PM_bind]
  constructor <;> intro h <;> refine h.imp fun x S1 h => h.imp fun y S2 h => ?_
  · cases e : keyD x with
    | none => rw [e] at h; exact (PM_stuck.mp h).elim
    | some kk =>
      rw [e] at h
      refine ⟨kk, rfl, ?_⟩
      have h : PM (M.bind (dPairs r ρ) fun l => .ret ((kk, y) :: l)) S2 J := h
      rw [PM_bind] at h
      exact h.imp fun l S3 q => PM_ret.mp q
  · obtain ⟨kk, e, h⟩ := h
    rw [e]
    show PM (M.bind (dPairs r ρ) fun l => .ret ((kk, y) :: l)) S2 J
    rw [PM_bind]
    exact h.imp fun l S3 q => PM_ret.mpr q
theorem PM_pairs0 {J : List (Key × D) → Store → Prop} : PM (dPairs [] ρ) S J ↔ J [] S := PM_ret
theorem keyS {z : Str} : keyD (.str z) = some (.inr z) := rfl
theorem PM_fill {r : Nat} {l : List (Key × D)} (h : S[r]? = some (.dct [])) (hl : l.length ≤ 15) : PM (fillD r l) S Q ↔ Q (.ref r) (S.set r (.dct (mergeD [] l))) := PM_of (by unfold fillD; rw [h]; simp only [hl, if_true])
theorem e_pen {ns : List Int} : PM ((CC (k + 1)).fn 53 [.flst (ns.map .int)]) [] fun d S' => d = .ref 0 ∧ PenAt 0 1 S' := by
  refine PM_fn rfl rfl rfl ?_
  unfold b__law_pen
  simp only [PM_ret, PM_bind, PM_guard, PM_slot', PM_eC, PM_eOp, PM_eUn, PM_eT, PM_tV, PM_eAnd, PM_eOr, PM_tAnd, PM_tOr, PM_tNot, PM_eIf, PM_tIf, PM_tCmp, PM_tChn, PM_last, PM_more, PM_aNil, PM_aCons, PM_eTup, PM_eLst, PM_eCall, PM_eNew, PM_eDrop, PM_add, PM_sub, PM_mul, PM_fdiv, PM_mod, PM_pow, PM_neg, PM_lt, PM_le, PM_gt, PM_ge, PM_eqi, PM_nei, own_int, own_bl, own_tup, own_str, PM_isNon, PM_isBl, PM_isnot, PM_tbl, PM_tint, PM_tnon, PM_ttup, PM_lenT, PM_lenF, PM_int, PM_abs, PM_tupT, PM_lstF, PM_ixT, PM_eM, PM_iSeq, PM_seqT, PM_seqF, PM_rng1, PM_rng2, PM_enum, PZ_bind, PZ_nx, PZ_bk, PZ_ct, PZ_rt, SQ_nx, SQ_rt, SQ_ct, SQ_bk, TQ_nx, TQ_ct, TQ_bk, TQ_rt, PZ_seq, PZ_ret, PZ_drop, PZ_if, PZ_asg, PZ_one, PZ_par, PZ_allN, PZ_allC, PZ_tup, PZ_sub, PZ_fld, PZ_for, List.getElem?_cons_zero, List.getElem?_cons_succ, Option.some.injEq, exists_eq_left', exists_eq_left, List.set_cons_zero, List.set_cons_succ, setAll, List.length_cons, List.length_nil, List.map_cons, List.map_nil, Nat.reduceAdd, Nat.reduceSub, List.replicate, List.cons_append, List.nil_append, true_and, and_true, Bool.not_true, Bool.not_false, if_true, if_false, Bool.false_eq_true, D.int.injEq, D.isNon, D.isBl, Nat.reduceLeDiff, dropR_len, Nat.le_refl, ite_true, ite_false, reduceCtorEq]
  refine PZ_go (fun j ρ S' => S' = [] ∧ ∃ (f : Int) (c : Option D), ρ = [some (.flst (ns.map .int)), some (.int f), c]) ⟨rfl, 0, _, rfl⟩ ?_ ?_
  · rintro j d ρ S' hj ⟨rfl, f, c, rfl⟩
    rw [List.getElem?_map] at hj
    cases e : ns[j]? with
    | none => rw [e] at hj; cases hj
    | some z =>
      rw [e] at hj; cases hj
      refine ⟨trivial, _, rfl, ?_⟩
      have m1 : mulOk f 47 := mulOk_r (by decide) (by decide)
      have z1 : ¬ (1000000007 : Int) = 0 := by decide
      simp only [PM_ret, PM_bind, PM_guard, PM_slot', PM_eC, PM_eOp, PM_eUn, PM_eT, PM_tV, PM_eAnd, PM_eOr, PM_tAnd, PM_tOr, PM_tNot, PM_eIf, PM_tIf, PM_tCmp, PM_tChn, PM_last, PM_more, PM_aNil, PM_aCons, PM_eTup, PM_eLst, PM_eCall, PM_eNew, PM_eDrop, PM_add, PM_sub, PM_mul, PM_fdiv, PM_mod, PM_pow, PM_neg, PM_lt, PM_le, PM_gt, PM_ge, PM_eqi, PM_nei, own_int, own_bl, own_tup, own_str, PM_isNon, PM_isBl, PM_isnot, PM_tbl, PM_tint, PM_tnon, PM_ttup, PM_lenT, PM_lenF, PM_int, PM_abs, PM_tupT, PM_lstF, PM_ixT, PM_eM, PM_iSeq, PM_seqT, PM_seqF, PM_rng1, PM_rng2, PM_enum, PZ_bind, PZ_nx, PZ_bk, PZ_ct, PZ_rt, SQ_nx, SQ_rt, SQ_ct, SQ_bk, TQ_nx, TQ_ct, TQ_bk, TQ_rt, PZ_seq, PZ_ret, PZ_drop, PZ_if, PZ_asg, PZ_one, PZ_par, PZ_allN, PZ_allC, PZ_tup, PZ_sub, PZ_fld, PZ_for, List.getElem?_cons_zero, List.getElem?_cons_succ, Option.some.injEq, exists_eq_left', exists_eq_left, List.set_cons_zero, List.set_cons_succ, setAll, List.length_cons, List.length_nil, List.map_cons, List.map_nil, Nat.reduceAdd, Nat.reduceSub, List.replicate, List.cons_append, List.nil_append, true_and, and_true, Bool.not_true, Bool.not_false, if_true, if_false, Bool.false_eq_true, D.int.injEq, D.isNon, D.isBl, Nat.reduceLeDiff, dropR_len, Nat.le_refl, ite_true, ite_false, reduceCtorEq, m1, z1, ne_eq, not_false_eq_true]
      exact ⟨_, _, rfl⟩
  · rintro ρ S' ⟨rfl, f, c, rfl⟩
    refine ⟨trivial, ?_⟩
    have hl : ∀ l : List (Key × D), l.length = 5 → l.length ≤ 15 := fun l h => by omega
    simp only [PM_ret, PM_bind, PM_guard, PM_slot', PM_eC, PM_eOp, PM_eUn, PM_eT, PM_tV, PM_eAnd, PM_eOr, PM_tAnd, PM_tOr, PM_tNot, PM_eIf, PM_tIf, PM_tCmp, PM_tChn, PM_last, PM_more, PM_aNil, PM_aCons, PM_eTup, PM_eLst, PM_eCall, PM_eNew, PM_eDrop, PM_add, PM_sub, PM_mul, PM_fdiv, PM_mod, PM_pow, PM_neg, PM_lt, PM_le, PM_gt, PM_ge, PM_eqi, PM_nei, own_int, own_bl, own_tup, own_str, PM_isNon, PM_isBl, PM_isnot, PM_tbl, PM_tint, PM_tnon, PM_ttup, PM_lenT, PM_lenF, PM_int, PM_abs, PM_tupT, PM_lstF, PM_ixT, PM_eM, PM_iSeq, PM_seqT, PM_seqF, PM_rng1, PM_rng2, PM_enum, PZ_bind, PZ_nx, PZ_bk, PZ_ct, PZ_rt, SQ_nx, SQ_rt, SQ_ct, SQ_bk, TQ_nx, TQ_ct, TQ_bk, TQ_rt, PZ_seq, PZ_ret, PZ_drop, PZ_if, PZ_asg, PZ_one, PZ_par, PZ_allN, PZ_allC, PZ_tup, PZ_sub, PZ_fld, PZ_for, List.getElem?_cons_zero, List.getElem?_cons_succ, Option.some.injEq, exists_eq_left', exists_eq_left, List.set_cons_zero, List.set_cons_succ, setAll, List.length_cons, List.length_nil, List.map_cons, List.map_nil, Nat.reduceAdd, Nat.reduceSub, List.replicate, List.cons_append, List.nil_append, true_and, and_true, Bool.not_true, Bool.not_false, if_true, if_false, Bool.false_eq_true, D.int.injEq, D.isNon, D.isBl, Nat.reduceLeDiff, dropR_len, Nat.le_refl, ite_true, ite_false, reduceCtorEq, PM_eDct, PM_pairs, PM_pairs0, keyS]
    rw [PM_fill rfl (by show (5 : Nat) ≤ 15; decide)]
    have e : ∀ X, dropR [] (.ref 0) X = X := fun X => by
      unfold dropR
      split
      · rfl
      · rw [if_neg (fun z => by have := z.2; simp [belowD] at this)]
    show D.ref 0 = .ref 0 ∧ PenAt 0 1 (dropR [] (.ref 0) _)
    rw [e]
    exact ⟨rfl, 0, 0, 0, f, ns, by decide, rfl, rfl, by omega, by omega⟩
end


section
variable {k : Nat} {S S' S2 : Store} {ρ : En} {Q : D → Store → Prop} {B : Bool → Store → Prop}
/-- the pen stands, and all below stays but the pen -/
def Pn (S S' : Store) : Prop := PenAt 0 1 S' ∧ S.length ≤ S'.length ∧ ∀ r, r < S.length → r ≠ 0 → S'[r]? = S[r]?
theorem Pn.refl (h : PenAt 0 1 S) : Pn S S := ⟨h, Nat.le_refl _, fun _ _ _ => rfl⟩
theorem Pn.trans (h : Pn S S') (h2 : Pn S' S2) : Pn S S2 := ⟨h2.1, Nat.le_trans h.2.1 h2.2.1, fun r hr h0 => (h2.2.2 r (Nat.lt_of_lt_of_le hr h.2.1) h0).trans (h.2.2 r hr h0)⟩
theorem Pn.ap (h : PenAt 0 1 S) (X : Store) : Pn S (S ++ X) := ⟨h.ap, by simp, fun r hr _ => List.getElem?_append_left hr⟩
theorem Pn.app (h : Pn S S') (X : Store) : Pn S (S' ++ X) := h.trans (Pn.ap h.1 X)
theorem Pn.of_ap {X : Store} (h : Pn (S ++ X) S') : Pn S S' := ⟨h.1, by have := h.2.1; simp at this; omega, fun r hr h0 => (h.2.2 r (by simp; omega) h0).trans (List.getElem?_append_left hr)⟩
theorem Pn.drawn (h : Drawn 0 1 S S') : Pn S S' := ⟨h.1, by rw [h.len]; exact Nat.le_refl _, fun r _ h0 => h.other h0⟩
theorem Pn.get {r : Nat} {c : Cell} (h : Pn S S') (e : S[r]? = some c) (h0 : r ≠ 0) : S'[r]? = some c := by rw [h.2.2 r (get_lt e) h0]; exact e
theorem Pn.set {r : Nat} {c : Cell} (h : Pn S S') (hr : S.length ≤ r) (hp : PenAt 0 1 S) : Pn S (S'.set r c) := by
  have hl := hp.lt
  refine ⟨h.1.set (by omega) (by omega), by rw [List.length_set]; exact h.2.1, fun q hq h0 => ?_⟩
  rw [List.getElem?_set_ne (by omega)]
  exact h.2.2 q hq h0
theorem Pn.drop {d : D} (h : Pn S S') (h0 : PenAt 0 1 S) : Pn S (dropR S d S') := by
  refine ⟨h.1.drop h0, ?_, fun r hr hr0 => ?_⟩
  · unfold dropR
    split
    · exact h.2.1
    · split
      · rw [List.length_take]; have := h.2.1; omega
      · exact h.2.1
  · unfold dropR
    split
    · exact h.2.2 r hr hr0
    · split
      · rw [List.getElem?_take, if_pos hr]; exact h.2.2 r hr hr0
      · exact h.2.2 r hr hr0
/-- a comprehension that draws, over what is no list that changes -/
theorem pm_drawc {own : List Nat} {it : Iv} {tg : Tg} {el : Ev} {items : List D} {src : Src} (P : Nat → D → Prop) (hp : PenAt 0 1 S) (hit : it ρ S = some (.ok ⟨items, src⟩ S)) (hsz : items.length < sizeLine) (hok : ∀ S1, Pn S S1 → src.ok S1)
    (he : ∀ (j : Nat) (d : D) S1, items[j]? = some d → Pn S S1 → ∃ ρ1, tg.asg d (own.foldr (fun i ρ => ρ.set i none) ρ) = some ρ1 ∧ PM (el ρ1) S1 fun y S2 => P j y ∧ Pn S1 S2) :
    PM (eComp own it tg tTrue el ρ) S fun d S' => d = .ref S.length ∧ Pn S S' ∧ ∃ ys, S'[S.length]? = some (.lst ys) ∧ ys.length = items.length ∧ ∀ (j : Nat) y, ys[j]? = some y → P j y := by
  refine PM_compI ?_
  rw [PM_of hit]
  have hl := hp.lt
  refine ⟨fun j acc S1 => Pn S S1 ∧ S1[S.length]? = some (.lst acc) ∧ acc.length = j ∧ j ≤ items.length ∧ ∀ (i : Nat) y, acc[i]? = some y → P i y, ⟨Pn.ap hp _, get_last, rfl, Nat.zero_le _, fun i y h => by simp at h⟩, ?_, ?_⟩
  · rintro j d acc S1 hj ⟨h1, h2, h3, h4, h5⟩
    obtain ⟨ρ1, g1, g2⟩ := he j d S1 hj h1
    have hjl := (List.getElem?_eq_some_iff.mp hj).1
    refine ⟨hok _ h1, ρ1, g1, ?_⟩
    rw [tt_iff]
    refine ⟨fun _ => g2.imp ?_, fun z => by cases z⟩
    rintro y S2 ⟨p1, p2⟩
    refine ⟨p2.get h2 (by omega), by omega, (h1.trans p2).set (Nat.le_refl _) hp, set_self (p2.get h2 (by omega)), by simp [h3], hjl, fun i z hi => ?_⟩
    by_cases hia : i < acc.length
    · rw [List.getElem?_append_left hia] at hi; exact h5 i z hi
    · rw [List.getElem?_append_right (by omega)] at hi
      have : i = j := by
        by_cases e : i - acc.length = 0
        · omega
        · rw [List.getElem?_eq_none (by simp; omega)] at hi; cases hi
      subst this
      rw [h3, Nat.sub_self] at hi
      cases hi
      exact p1
  · rintro acc S1 ⟨h1, h2, h3, h4, h5⟩
    exact ⟨hok _ h1, rfl, h1, acc, h2, h3, h5⟩
/-- .. as a tuple -/
theorem pm_drawt {own : List Nat} {it : Iv} {tg : Tg} {el : Ev} {items : List D} {src : Src} (P : Nat → D → Prop) (hp : PenAt 0 1 S) (hit : it ρ S = some (.ok ⟨items, src⟩ S)) (hsz : items.length < sizeLine) (hok : ∀ S1, Pn S S1 → src.ok S1)
    (he : ∀ (j : Nat) (d : D) S1, items[j]? = some d → Pn S S1 → ∃ ρ1, tg.asg d (own.foldr (fun i ρ => ρ.set i none) ρ) = some ρ1 ∧ PM (el ρ1) S1 fun y S2 => P j y ∧ Pn S1 S2) :
    PM (eDrop (eUn fTup (eComp own it tg tTrue el)) ρ) S fun d S' => Pn S S' ∧ ∃ ys, d = .tup ys ∧ ys.length = items.length ∧ ∀ (j : Nat) y, ys[j]? = some y → P j y := by
  rw [PM_eDrop, PM_eUn]
  refine (pm_drawc P hp hit hsz hok he).imp ?_
  rintro d S1 ⟨rfl, h1, ys, h2, h3, h4⟩
  rw [PM_tupL h2]
  exact ⟨h1.drop hp, ys, rfl, h3, h4⟩
theorem rng_len {n : Nat} : (rngL 0 (n : Int)).length = n := by unfold rngL; simp
theorem it_rng {e : Ev} {n : Nat} (h : PM (e ρ) S fun d S' => d = .int (n : Nat) ∧ S' = S) (hn : n < 1000) : iRng1 e ρ S = some (.ok ⟨rngL 0 (n : Int), .non⟩ S) := fn_eq (by
  rw [PM_rng1]
  refine h.imp ?_
  rintro d S' ⟨rfl, rfl⟩
  exact ⟨_, rfl, rngOk_nat (by omega), rfl, rfl⟩)
/-- what holds of all -/
theorem exists_map {α : Type} {f : α → D} {P : α → Prop} : ∀ {ys : List D}, (∀ y ∈ ys, ∃ x, y = f x ∧ P x) → ∃ xs : List α, ys = xs.map f ∧ ∀ x ∈ xs, P x
  | [], _ => ⟨[], rfl, fun _ h => by cases h⟩
  | y :: ys, h => by
    obtain ⟨x, rfl, hx⟩ := h y List.mem_cons_self
    obtain ⟨xs, rfl, hxs⟩ := exists_map (ys := ys) fun z hz => h z (List.mem_cons_of_mem _ hz)
    exact ⟨x :: xs, rfl, fun z hz => (List.mem_cons.mp hz).elim (fun e => e ▸ hx) (hxs z)⟩
theorem of_ix {P : D → Prop} {ys : List D} (h : ∀ (j : Nat) y, ys[j]? = some y → P y) : ∀ y ∈ ys, P y := fun y hy => by
  obtain ⟨i, hi, rfl⟩ := List.getElem_of_mem hy
  exact h i _ (List.getElem?_eq_getElem hi)
def Bdd (b : Nat) (xs : List Int) : Prop := ∀ x ∈ xs, x.natAbs ≤ b
theorem drawI {m : Int} {e : Ev} (hp : PenAt 0 1 S) (he : PM (e ρ) S fun d S' => d = .int m ∧ S' = S) (h1 : 1 ≤ m) (h2 : m < 2 ^ 64) {i : Nat} (hi : ρ[i]? = some (some (.ref 0))) :
    PM (eCall (CC (k + 1)) 54 2 (aCons (eSlot i) (aCons e aNil)) ρ) S fun d S' => (∃ z, d = .int z ∧ 0 ≤ z ∧ z < m) ∧ Pn S S' := by
  rw [PM_eCall, PM_aCons, PM_slot hi, PM_aCons]
  refine he.imp ?_
  rintro d S1 ⟨rfl, rfl⟩
  rw [PM_aNil]
  refine ⟨rfl, (e_draw (k := k) hp h1 h2).imp ?_⟩
  rintro d S2 ⟨h, hd⟩
  exact ⟨h, Pn.drawn hd⟩
theorem e_drow {w size : Nat} (hp : PenAt 0 1 S) (hw : w < 1000) (hs : size < 1000) : PM ((CC (k + 2)).fn 60 [.ref 0, .int (w : Nat), .int (size : Nat)]) S fun d S' => Pn S S' ∧ ∃ xs, d = rowD xs ∧ xs.length = w ∧ Bdd size xs := by
  refine PM_fnq rfl rfl rfl ?_
  unfold b__law_drawn_row
  change PZ _ [some (.ref 0), some (.int (w : Nat)), some (.int (size : Nat)), none] _ _
  rw [PZ_ret]
  have big := sizeLine_big
  refine (pm_drawt (fun _ y => ∃ x : Int, y = .int x ∧ x.natAbs ≤ size) hp (it_rng (n := w) (by rw [PM_slot (i := 1) (d := .int (w : Nat)) rfl]; exact ⟨rfl, rfl⟩) hw) (by rw [rng_len]; omega) (fun _ _ => trivial) fun j d S1 hj h1 => ?_).imp ?_
  · refine ⟨_, rfl, ?_⟩
    rw [PM_eOp]
    refine (drawI (k := k) (i := 0) (m := 2 * (size : Int) + 1) h1.1 ?_ (by omega) (by omega) rfl).imp ?_
    · have m2 : mulOk 2 (size : Int) := mulOk_l (by omega) (by omega)
      rw [PM_eOp, PM_eOp, PM_eC, PM_slot (i := 2) (d := .int (size : Nat)) rfl, PM_mul]
      refine ⟨m2, ?_⟩
      rw [PM_eC, PM_add]
      exact ⟨rfl, rfl⟩
    · rintro d S2 ⟨⟨z, rfl, z1, z2⟩, h2⟩
      rw [PM_slot (i := 2) (d := .int (size : Nat)) rfl, PM_sub]
      exact ⟨⟨_, rfl, by omega⟩, h2⟩
  · rintro d S1 ⟨h1, ys, rfl, h3, h4⟩
    obtain ⟨xs, rfl, hx⟩ := exists_map (f := D.int) (of_ix h4)
    rw [FQ_rt]
    rw [rng_len, List.length_map] at h3
    exact ⟨h1.drop hp, xs, rfl, h3, hx⟩
/-- the law's own sum of rows -/
theorem e_lsum {ns : List Int} {w : Nat} {R : List (List Int)} {dn dr : D} (hn : ISeq S dn ns) (hr : RSeq S dr R) (hw : Wd R w) (hw9 : w < 1000) (hm : ∀ m ∈ ns, ∀ row ∈ R, ∀ z ∈ row, mulOk m z) : (CC (k + 1)).fn 59 [dn, dr, .int (w : Nat)] S = some (.ok (rowD (sumR ns R w)) S) := by
  refine fn_eq (PM_fnq rfl rfl rfl ?_)
  unfold b__law_sum
  have key := sum_loop (S := S) (x := none) (U := fun r => match r with
    | .nx ρ S' => ∃ r X, ρ[3]? = some (some (.ref r)) ∧ S' = S ++ X ∧ S'[r]? = some (.lst ((sumR ns R w).map .int))
    | _ => False) hn hr hw hw9 hm fun X r x y h1 h2 => ⟨r, X, rfl, rfl, h1⟩
  rw [PZ_seq] at key ⊢
  refine key.imp fun r h => ?_
  cases r with
  | nx ρ S1 =>
    rw [SQ_nx] at h ⊢
    rw [PZ_seq]
    refine h.imp fun r h => ?_
    cases r with
    | nx ρ S1 =>
      obtain ⟨r, X, h1, rfl, h3⟩ := h
      rw [SQ_nx, PZ_ret, PM_eUn, PM_slot h1, PM_tupL h3, FQ_rt]
      exact ⟨rfl, drop_ints⟩
    | _ => exact h.elim
  | _ => exact h.elim
/-- a shuffled list: the same things -/
theorem e_shuf {P : D → Prop} {r : Nat} {xs : List D} (hp : PenAt 0 1 S) (hr : S[r]? = some (.lst xs)) (hP : ∀ x ∈ xs, P x) (hl : xs.length < 1000) : PM ((CC (k + 2)).fn 56 [.ref 0, .ref r]) S fun d S' => Pn S S' ∧ ∃ q ys, d = .ref q ∧ S.length ≤ q ∧ S'[q]? = some (.lst ys) ∧ ys.length = xs.length ∧ ∀ y ∈ ys, P y := by
  refine PM_fnq rfl rfl rfl ?_
  unfold b__law_shuffled
  change PZ _ [some (.ref 0), some (.ref r), none, none, none] _ _
  have big := sizeLine_big
  have hlt := hp.lt
  rw [PZ_seq, PZ_par, PM_aCons, PM_eUn, PM_slot (i := 1) (d := .ref r) rfl, PM_lstL hr, PM_aCons, PM_eLst, PM_aNil]
  refine ⟨by simp, ?_⟩
  rw [PM_aNil]
  refine ⟨rfl, ?_⟩
  rw [SQ_nx, PZ_seq, PZ_for]
  have e1 : (S ++ [Cell.lst xs]).length = S.length + 1 := by simp
  have g1 : ((S ++ [Cell.lst xs]) ++ [Cell.lst []])[S.length]? = some (.lst xs) := get_ap get_last
  have g2 : ((S ++ [Cell.lst xs]) ++ [Cell.lst []])[S.length + 1]? = some (.lst []) := by rw [← e1]; exact get_last
  have gr : ((S ++ [Cell.lst xs]) ++ [Cell.lst []])[r]? = some (.lst xs) := get_ap (get_ap hr)
  have p1 : Pn S ((S ++ [Cell.lst xs]) ++ [Cell.lst []]) := (Pn.ap hp _).app _
  rw [e1]
  change PM _ _ fun itm S' => PZ _ [some (.ref 0), some (.ref r), some (.ref S.length), some (.ref (S.length + 1)), none] _ _
  generalize (S ++ [Cell.lst xs]) ++ [Cell.lst []] = S1 at g1 g2 p1 gr
  have hit : iRng1 (eUn fLen (eSlot 1)) [some (.ref 0), some (.ref r), some (.ref S.length), some (.ref (S.length + 1)), none] S1 = some (.ok ⟨rngL 0 (xs.length : Int), .non⟩ S1) := it_rng (by
    rw [PM_eUn, PM_slot (i := 1) (d := .ref r) rfl, PM_lenL gr]; exact ⟨rfl, rfl⟩) hl
  change PM (iRng1 (eUn fLen (eSlot 1)) [some (.ref 0), some (.ref r), some (.ref S.length), some (.ref (S.length + 1)), none]) S1 _
  rw [PM_of hit]
  refine PZ_go (fun j ρ S' => Pn S S' ∧ (∃ x, ρ = [some (.ref 0), some (.ref r), some (.ref S.length), some (.ref (S.length + 1)), x]) ∧ ∃ ls fs, S'[S.length]? = some (.lst ls) ∧ S'[S.length + 1]? = some (.lst fs) ∧ ls.length + fs.length = xs.length ∧ fs.length = j ∧ (∀ y ∈ ls, P y) ∧ ∀ y ∈ fs, P y)
    ⟨p1, ⟨_, rfl⟩, xs, [], g1, g2, by simp, rfl, hP, fun _ h => by cases h⟩ ?_ ?_
  · rintro j d ρ S2 hj ⟨h1, ⟨x, rfl⟩, ls, fs, h2, h3, h4, h5, h6, h7⟩
    obtain ⟨rfl, hlt2⟩ := rng_at hj
    refine ⟨trivial, _, rfl, ?_⟩
    change PZ _ [some (.ref 0), some (.ref r), some (.ref S.length), some (.ref (S.length + 1)), some (.int (0 + (j : Int)))] _ _
    rw [PZ_drop, PM_eM, PM_slot (i := 3) (d := .ref (S.length + 1)) rfl]
    refine ⟨kindL h3, ?_⟩
    rw [PM_aCons, PM_eM, PM_slot (i := 2) (d := .ref S.length) rfl]
    refine ⟨kindL h2, ?_⟩
    rw [PM_aCons]
    refine (drawI (k := k) (i := 0) (m := (ls.length : Int)) h1.1 (by rw [PM_eUn, PM_slot (i := 2) (d := .ref S.length) rfl, PM_lenL h2]; exact ⟨rfl, rfl⟩) (by omega) (by omega) rfl).imp ?_
    rintro d S3 ⟨⟨z, rfl, z1, z2⟩, q1⟩
    have h2' := q1.get h2 (by omega)
    have h3' := q1.get h3 (by omega)
    obtain ⟨y, hy⟩ : ∃ y, ls[z.toNat]? = some y := ⟨_, List.getElem?_eq_getElem (by omega)⟩
    have hpop : ∀ Q : D → Store → Prop, PM (mPopAt (.ref S.length) [.int z]) S3 Q ↔ Q y (S3.set S.length (.lst (ls.eraseIdx z.toNat))) := fun Q => by
      refine PM_of ?_
      unfold mPopAt
      simp only [h2']
      have e3 : seqIndex? z ls.length = some z.toNat := by
        unfold seqIndex?
        simp [z1, show ¬ z < 0 by omega]
        omega
      rw [if_pos ⟨by omega, by omega⟩, e3]
      simp only [hy]
    rw [PM_aNil, hpop, PM_aNil]
    have h3'' : (S3.set S.length (.lst (ls.eraseIdx z.toNat)))[S.length + 1]? = some (.lst fs) := get_set h3' (by omega)
    rw [PM_append h3'' (by omega), TQ_nx]
    refine ⟨((h1.trans q1).set (Nat.le_refl _) hp).set (by omega) hp, ⟨_, rfl⟩, ls.eraseIdx z.toNat, fs ++ [y], get_set (set_self h2') (by omega), set_self h3'', ?_, by simp [h5], fun u hu => h6 u (List.mem_of_mem_eraseIdx hu), fun u hu => ?_⟩
    · rw [List.length_eraseIdx, if_pos (by omega)]
      simp
      omega
    · rcases List.mem_append.mp hu with hu | hu
      · exact h7 u hu
      · rw [List.mem_singleton.mp hu]; exact h6 y (List.mem_of_getElem? hy)
  · rintro ρ S2 ⟨h1, ⟨x, rfl⟩, ls, fs, h2, h3, h4, h5, h6, h7⟩
    refine ⟨trivial, ?_⟩
    rw [SQ_nx, PZ_ret, PM_slot (i := 3) (d := .ref (S.length + 1)) rfl, FQ_rt]
    rw [rng_len] at h5
    have e : dropR S (.ref (S.length + 1)) S2 = S2 := dropR_new (by intro h; exact absurd h (by show ¬ S.length + 1 < S.length; omega))
    rw [e]
    exact ⟨h1, _, fs, rfl, by omega, h3, h5, h7⟩
end


section
variable {k : Nat} {S S' S2 : Store} {ρ : En} {Q : D → Store → Prop} {B : Bool → Store → Prop}
theorem pm_drawI {own : List Nat} {it : Iv} {tg : Tg} {el : Ev} (P : Nat → D → Prop) (K : Nat → Prop) (hp : PenAt 0 1 S) (h : PM (it ρ) S fun itm S1 => Pn S S1 ∧ K itm.items.length ∧ itm.items.length < sizeLine ∧ (∀ S2, Pn S1 S2 → itm.src.ok S2) ∧
    ∀ (j : Nat) (d : D) S2, itm.items[j]? = some d → Pn S1 S2 → ∃ ρ1, tg.asg d (own.foldr (fun i ρ => ρ.set i none) ρ) = some ρ1 ∧ PM (el ρ1) S2 fun y S3 => P j y ∧ Pn S2 S3) :
    PM (eComp own it tg tTrue el ρ) S fun d S' => Pn S S' ∧ ∃ r ys, d = .ref r ∧ S.length ≤ r ∧ S'[r]? = some (.lst ys) ∧ K ys.length ∧ ∀ (j : Nat) y, ys[j]? = some y → P j y := by
  refine PM_compI (h.imp fun itm S0 ⟨hs, hK, hsz, hok, he⟩ => ?_)
  have hl := hs.1.lt
  refine ⟨fun j acc S1 => Pn S0 S1 ∧ S1[S0.length]? = some (.lst acc) ∧ acc.length = j ∧ j ≤ itm.items.length ∧ ∀ (i : Nat) y, acc[i]? = some y → P i y, ⟨Pn.ap hs.1 _, get_last, rfl, Nat.zero_le _, fun i y h => by simp at h⟩, ?_, ?_⟩
  · rintro j d acc S1 hj ⟨h1, h2, h3, h4, h5⟩
    obtain ⟨ρ1, g1, g2⟩ := he j d S1 hj h1
    have hjl := (List.getElem?_eq_some_iff.mp hj).1
    refine ⟨hok _ h1, ρ1, g1, ?_⟩
    rw [tt_iff]
    refine ⟨fun _ => g2.imp ?_, fun z => by cases z⟩
    rintro y S2 ⟨p1, p2⟩
    refine ⟨p2.get h2 (by omega), by omega, (h1.trans p2).set (Nat.le_refl _) hs.1, set_self (p2.get h2 (by omega)), by simp [h3], hjl, fun i z hi => ?_⟩
    by_cases hia : i < acc.length
    · rw [List.getElem?_append_left hia] at hi; exact h5 i z hi
    · rw [List.getElem?_append_right (by omega)] at hi
      have : i = j := by
        by_cases e : i - acc.length = 0
        · omega
        · rw [List.getElem?_eq_none (by simp; omega)] at hi; cases hi
      subst this
      rw [h3, Nat.sub_self] at hi
      cases hi
      exact p1
  · rintro acc S1 ⟨h1, h2, h3, h4, h5⟩
    exact ⟨hok _ h1, hs.trans h1, S0.length, acc, rfl, hs.2.1, h2, by rw [h3]; exact hK, h5⟩
theorem pm_drawTI {own : List Nat} {it : Iv} {tg : Tg} {el : Ev} (P : Nat → D → Prop) (K : Nat → Prop) (hp : PenAt 0 1 S) (h : PM (it ρ) S fun itm S1 => Pn S S1 ∧ K itm.items.length ∧ itm.items.length < sizeLine ∧ (∀ S2, Pn S1 S2 → itm.src.ok S2) ∧
    ∀ (j : Nat) (d : D) S2, itm.items[j]? = some d → Pn S1 S2 → ∃ ρ1, tg.asg d (own.foldr (fun i ρ => ρ.set i none) ρ) = some ρ1 ∧ PM (el ρ1) S2 fun y S3 => P j y ∧ Pn S2 S3) :
    PM (eDrop (eUn fTup (eComp own it tg tTrue el)) ρ) S fun d S' => Pn S S' ∧ ∃ ys, d = .tup ys ∧ K ys.length ∧ ∀ (j : Nat) y, ys[j]? = some y → P j y := by
  rw [PM_eDrop, PM_eUn]
  refine (pm_drawI P K hp h).imp ?_
  rintro d S1 ⟨h1, r, ys, rfl, hr, h2, h3, h4⟩
  rw [PM_tupL h2]
  exact ⟨h1.drop hp, ys, rfl, h3, h4⟩
/-- range of what is drawn -/
theorem it_rngD {e : Ev} {m : Int} {J : Itm → Store → Prop} (h : PM (e ρ) S fun d S' => (∃ z, d = .int z ∧ 0 ≤ z ∧ z < m) ∧ Pn S S') (hm : m ≤ 1000) (hJ : ∀ (n : Nat) S1, (n : Int) < m → Pn S S1 → J ⟨rngL 0 (n : Int), .non⟩ S1) : PM (iRng1 e ρ) S J := by
  rw [PM_rng1]
  refine h.imp ?_
  rintro d S1 ⟨⟨z, rfl, z1, z2⟩, h1⟩
  obtain ⟨n, rfl⟩ := Int.eq_ofNat_of_zero_le z1
  exact ⟨_, rfl, rngOk_nat (by omega), hJ n S1 z2 h1⟩
theorem toPs_ints : ∀ xs : List Int, toPs (xs.map .int) = some (xs.map PyData.int)
  | [] => rfl
  | x :: xs => by
    rw [List.map_cons]
    unfold toPs
    rw [toPs_ints xs]
    rfl
theorem toP_row (xs : List Int) : toP (rowD xs) = some (.tuple (xs.map PyData.int)) := by
  show (toPs (xs.map .int)).map PyData.tuple = _
  rw [toPs_ints]; rfl
theorem toPs_rows : ∀ R : List (List Int), toPs (R.map rowD) = some (R.map fun xs => .tuple (xs.map PyData.int))
  | [] => rfl
  | x :: xs => by
    rw [List.map_cons]
    unfold toPs
    rw [toPs_rows xs, toP_row]
    rfl
theorem sum_abs2 {ns : List Int} {R : List (List Int)} {w A Bb c : Nat} (hn : Bdd A ns) (hR : ∀ row ∈ R, Bdd Bb row) (hc : ns.length * (A * Bb) ≤ c) : Bdd c (sumR ns R w) := fun x hx => Nat.le_trans (sumR_abs hn hR x hx) hc
theorem Wd.snoc {R : List (List Int)} {w : Nat} {xs : List Int} (h : Wd R w) (hx : xs.length = w) : Wd (R ++ [xs]) w := fun r hr => by
  rcases List.mem_append.mp hr with hr | hr
  · exact h r hr
  · rw [List.mem_singleton.mp hr]; exact hx
theorem seq_tabL {r : Nat} {R : List (List Int)} (h : S[r]? = some (.lst (R.map rowD))) : RSeq S (.ref r) R := ⟨R.map rowD, .inr ⟨r, rfl, h⟩, by simp, fun i x xs h1 h2 => by
  rw [List.getElem?_map, h2] at h1
  cases h1
  exact seq_row⟩
def RowsOk (n w b : Nat) (R : List (List Int)) : Prop := R.length ≤ n ∧ Wd R w ∧ ∀ row ∈ R, Bdd b row
theorem rows_of {ys : List D} {w b : Nat} (h : ∀ y ∈ ys, ∃ xs, y = rowD xs ∧ xs.length = w ∧ Bdd b xs) : ∃ R : List (List Int), ys = R.map rowD ∧ Wd R w ∧ ∀ row ∈ R, Bdd b row := by
  obtain ⟨R, rfl, hR⟩ := exists_map (f := rowD) (P := fun xs => xs.length = w ∧ Bdd b xs) fun y hy => by
    obtain ⟨xs, e, h1, h2⟩ := h y hy
    exact ⟨xs, e, h1, h2⟩
  exact ⟨R, rfl, fun r hr => (hR r hr).1, fun r hr => (hR r hr).2⟩
theorem e_drows {w most size : Nat} (hp : PenAt 0 1 S) (hw : w < 1000) (hm : most < 30) (hm1 : 1 ≤ most) (hs : size < 1000) : PM ((CC (k + 3)).fn 61 [.ref 0, .int (w : Nat), .int (most : Nat), .int (size : Nat)]) S fun d S' => Pn S S' ∧ ∃ R, d = tabD R ∧ RowsOk most w (2 * most * size) R := by
  refine PM_fnq rfl rfl rfl ?_
  unfold b__law_drawn_rows
  change PZ _ [some (.ref 0), some (.int (w : Nat)), some (.int (most : Nat)), some (.int (size : Nat)), none, none, none] _ _
  have big := sizeLine_big
  have hlt := hp.lt
  have hB : size ≤ 2 * most * size := by
    have := Nat.mul_le_mul_right size (show 1 ≤ 2 * most by omega)
    omega
  rw [PZ_seq, PZ_asg]
  refine (pm_drawI (fun _ y => ∃ xs, y = rowD xs ∧ xs.length = w ∧ Bdd size xs) (fun n => n ≤ most) hp (it_rngD (m := (most : Int) + 1) (drawI (k := k + 1) (i := 0) hp (by
    rw [PM_eOp, PM_slot (i := 2) (d := .int (most : Nat)) rfl, PM_eC, PM_add]; exact ⟨rfl, rfl⟩) (by omega) (by omega) rfl) (by omega) fun n S1 hn h1 => ⟨h1, by rw [rng_len]; omega, by rw [rng_len]; omega, fun _ _ => trivial, fun j d S2 hj h2 => ?_⟩)).imp ?_
  · refine ⟨_, rfl, ?_⟩
    rw [PM_eCall, PM_aCons, PM_slot (i := 0) (d := .ref 0) rfl, PM_aCons, PM_slot (i := 1) (d := .int (w : Nat)) rfl, PM_aCons, PM_slot (i := 3) (d := .int (size : Nat)) rfl, PM_aNil]
    refine ⟨rfl, (e_drow (k := k) h2.1 hw hs).imp ?_⟩
    rintro y S3 ⟨a1, a2⟩
    exact ⟨a2, a1⟩
  · rintro d S1 ⟨h1, r, ys, rfl, hr, hL, hlen, hys⟩
    obtain ⟨R, rfl, hW, hBd⟩ := rows_of (of_ix hys)
    rw [PZ_one, SQ_nx]
    change PZ _ [some (.ref 0), some (.int (w : Nat)), some (.int (most : Nat)), some (.int (size : Nat)), some (.ref r), none, none] _ _
    have fin : ∀ (R' : List (List Int)) (S2 : Store) (x5 x6 : Option D), Pn S S2 → S2[r]? = some (.lst (R'.map rowD)) → RowsOk most w (2 * most * size) R' → PZ (sRet (eUn fTup (eCall (CC (k + 2)) 56 2 (aCons (eSlot 0) (aCons (eSlot 4) aNil))))) [some (.ref 0), some (.int (w : Nat)), some (.int (most : Nat)), some (.int (size : Nat)), some (.ref r), x5, x6] S2
        (FQ S fun d S' => Pn S S' ∧ ∃ R, d = tabD R ∧ RowsOk most w (2 * most * size) R) := fun R' S2 x5 x6 q1 q2 q3 => by
      rw [PZ_ret, PM_eUn, PM_eCall, PM_aCons, PM_slot (i := 0) (d := .ref 0) rfl, PM_aCons, PM_slot (i := 4) (d := .ref r) rfl, PM_aNil]
      refine ⟨rfl, (e_shuf (k := k) (P := fun y => ∃ xs, y = rowD xs ∧ xs.length = w ∧ Bdd (2 * most * size) xs) q1.1 q2 (fun x hx => ?_) (by rw [List.length_map]; have := q3.1; omega)).imp ?_⟩
      · obtain ⟨row, hrow, rfl⟩ := List.mem_map.mp hx
        exact ⟨row, rfl, q3.2.1 row hrow, q3.2.2 row hrow⟩
      · rintro d S3 ⟨u1, q, ys, rfl, _, u3, u4, u5⟩
        obtain ⟨R2, rfl, w1, w2⟩ := rows_of u5
        rw [PM_tupL u3, FQ_rt]
        refine ⟨(q1.trans u1).drop hp, R2, rfl, ?_, w1, w2⟩
        rw [List.length_map, List.length_map] at u4
        have := q3.1
        omega
    rw [List.length_map] at hlen
    have r0 : RowsOk most w (2 * most * size) R := ⟨hlen, hW, fun row hr x hx => Nat.le_trans (hBd row hr x hx) hB⟩
    rw [PZ_seq, PZ_if, PM_tAnd, PM_tCmp, PM_slot (i := 4) (d := .ref r) rfl, PM_eLst, PM_aNil]
    refine ⟨Nat.zero_le _, ?_⟩
    have hL2 : (S1 ++ [Cell.lst []])[r]? = some (.lst (R.map rowD)) := get_ap hL
    rw [PM_ownL hL2, PM_cNe, PM_eqNil hL2 get_last (toPs_rows R)]
    have h2 : Pn S (S1 ++ [Cell.lst []]) := h1.app _
    generalize S1 ++ [Cell.lst []] = S2 at hL2 h2
    cases hR : R with
    | nil =>
      subst hR
      simp only [List.map_nil, List.isEmpty_nil, Bool.not_true, Bool.false_eq_true, if_false]
      rw [PZ_nx, SQ_nx]
      exact fin [] S2 _ _ h2 hL2 r0
    | cons row0 R0 =>
      rw [← hR]
      have e1 : (!(R.map rowD).isEmpty) = true := by rw [hR]; rfl
      rw [e1, if_pos rfl, PM_tAnd, PM_tCmp, PM_eUn, PM_slot (i := 4) (d := .ref r) rfl, PM_lenL hL2, PM_slot (i := 2) (d := .int (most : Nat)) rfl, PM_lt]
      by_cases hlm : (((R.map rowD).length : Nat) : Int) < (most : Int)
      · rw [decide_eq_true hlm, if_pos rfl, PM_tCmp]
        refine (drawI (k := k + 1) (i := 0) (m := 2) h2.1 (by rw [PM_eC]; exact ⟨rfl, rfl⟩) (by omega) (by omega) rfl).imp ?_
        rintro d S3 ⟨⟨z, rfl, z1, z2⟩, q1⟩
        have hL3 := q1.get hL2 (by omega)
        have h3 := h2.trans q1
        rw [PM_eC, own_int, PM_eqi]
        by_cases hz : z = 0
        · rw [decide_eq_true hz, if_pos rfl, PZ_drop, PM_eM, PM_slot (i := 4) (d := .ref r) rfl]
          refine ⟨kindL hL3, ?_⟩
          rw [PM_aCons, PM_eCall, PM_aCons]
          refine (pm_drawI (fun _ y => ∃ x : Int, y = .int x ∧ x.natAbs ≤ 2) (fun n => n = R.length) h3.1 (by
            rw [PM_iSeq, PM_slot (i := 4) (d := .ref r) rfl, PM_seqL hL3]
            refine ⟨Pn.refl h3.1, by simp, by simp; omega, fun S4 p => p.get hL3 (by omega), fun j d S4 hj p => ?_⟩
            refine ⟨_, rfl, ?_⟩
            rw [PM_eOp]
            refine (drawI (k := k + 1) (i := 0) (m := 5) p.1 (by rw [PM_eC]; exact ⟨rfl, rfl⟩) (by omega) (by omega) rfl).imp ?_
            rintro d S5 ⟨⟨z, rfl, z1, z2⟩, q2⟩
            rw [PM_eC, PM_sub]
            exact ⟨⟨_, rfl, by omega⟩, q2⟩)).imp ?_
          rintro d S4 ⟨q2, r2, ys2, rfl, hr2, hL4, hk, hys2⟩
          obtain ⟨ns, rfl, hns⟩ := exists_map (f := D.int) (of_ix hys2)
          rw [List.length_map] at hk
          have hLr := q2.get hL3 (by omega)
          rw [PM_aCons, PM_slot (i := 4) (d := .ref r) rfl, PM_aCons, PM_slot (i := 1) (d := .int (w : Nat)) rfl, PM_aNil]
          refine ⟨rfl, ?_⟩
          rw [PM_of (e_lsum (k := k + 1) (ns := ns) (R := R) (.inl ⟨r2, rfl, hL4⟩) (seq_tabL hLr) hW hw fun m hm row hr z hz => mulOk_l (by have := hns m hm; omega) (by have := hns m hm; omega)), PM_aNil, PM_append hLr (by simp; omega), SQ_nx]
          have h4 := h3.trans q2
          rw [List.length_map] at hlm
          refine fin (R ++ [sumR ns R w]) _ _ _ (h4.set hr hp) (by rw [List.map_append]; exact set_self hLr) ⟨by simp; omega, hW.snoc (sumR_len hW), fun row hr => ?_⟩
          rcases List.mem_append.mp hr with hr | hr
          · exact r0.2.2 row hr
          · rw [List.mem_singleton.mp hr]
            refine sum_abs2 hns hBd ?_
            rw [hk, Nat.mul_comm 2 most, Nat.mul_assoc]
            exact Nat.mul_le_mul_right _ hlen
        · rw [decide_eq_false hz, if_neg (by simp), PZ_nx, SQ_nx]
          exact fin R S3 _ _ h3 hL3 r0
      · rw [decide_eq_false hlm]
        simp only [Bool.false_eq_true, if_false]
        rw [PZ_nx, SQ_nx]
        exact fin R S2 _ _ h2 hL2 r0
end


section
variable {k : Nat} {S S' S2 : Store} {ρ : En} {Q : D → Store → Prop} {B : Bool → Store → Prop}
/-- [el for x in items]: each item gives a value, the store stays -/
theorem PM_mapD {own : List Nat} {it : Iv} {tg : Tg} {el : Ev} {items : List D} {src : Src} (F : D → D) (hit : it ρ S = some (.ok ⟨items, src⟩ S)) (hl : items.length < sizeLine) (hok : ∀ acc, src.ok (S ++ [.lst acc]))
    (he : ∀ d ∈ items, ∃ ρ1, tg.asg d (own.foldr (fun i ρ => ρ.set i none) ρ) = some ρ1 ∧ ∀ acc, PM (el ρ1) (S ++ [.lst acc]) fun y S' => y = F d ∧ S' = S ++ [.lst acc])
    (hQ : Q (.ref S.length) (S ++ [.lst (items.map F)])) : PM (eComp own it tg tTrue el ρ) S Q := by
  refine PM_comp ?_
  rw [PM_of hit]
  refine ⟨hl, fun d => some (F d), hok, fun d hd => ?_, ?_⟩
  · obtain ⟨ρ1, h1, h2⟩ := he d hd
    refine ⟨ρ1, h1, fun acc => ?_⟩
    rw [tt_iff]
    refine ⟨rfl, (h2 acc).imp ?_⟩
    rintro y S' ⟨rfl, rfl⟩
    exact ⟨rfl, rfl⟩
  · have : items.filterMap (fun d => some (F d)) = items.map F := by
      induction items with
      | nil => rfl
      | cons x xs ih => simp
    rw [this]; exact hQ
/-- [x for x in items if c] -/
theorem PM_fltD {own : List Nat} {it : Iv} {tg : Tg} {cnd : Tv} {el : Ev} {items : List D} {src : Src} (f : D → Bool) (hit : it ρ S = some (.ok ⟨items, src⟩ S)) (hl : items.length < sizeLine) (hok : ∀ acc, src.ok (S ++ [.lst acc]))
    (he : ∀ d ∈ items, ∃ ρ1, tg.asg d (own.foldr (fun i ρ => ρ.set i none) ρ) = some ρ1 ∧ ∀ acc, PM (cnd ρ1) (S ++ [.lst acc]) (fun y S' => y = f d ∧ S' = S ++ [.lst acc]) ∧ PM (el ρ1) (S ++ [.lst acc]) fun y S' => y = d ∧ S' = S ++ [.lst acc])
    (hQ : Q (.ref S.length) (S ++ [.lst (items.filter f)])) : PM (eComp own it tg cnd el ρ) S Q := by
  refine PM_comp ?_
  rw [PM_of hit]
  refine ⟨hl, fun d => if f d then some d else none, hok, fun d hd => ?_, ?_⟩
  · obtain ⟨ρ1, h1, h2⟩ := he d hd
    refine ⟨ρ1, h1, fun acc => ?_⟩
    refine (h2 acc).1.imp ?_
    rintro y S' ⟨rfl, rfl⟩
    refine ⟨rfl, ?_⟩
    cases hf : f d with
    | true =>
      refine (h2 acc).2.imp ?_
      rintro y S' ⟨rfl, rfl⟩
      exact ⟨rfl, by simp [hf]⟩
    | false => simp [hf]
  · have : items.filterMap (fun d => if f d then some d else none) = items.filter f := by
      clear hit hl he hQ
      induction items with
      | nil => rfl
      | cons x xs ih =>
        rw [List.filterMap_cons, List.filter_cons]
        cases f x <;> simp [ih]
    rw [this]; exact hQ
theorem drop_pl {d : D} {X : Store} (h : belowD S.length d) : dropR S d (S ++ X) = S := dropR_pure (by simp) h
/-- all([..]) -/
theorem PM_allD {own : List Nat} {it : Iv} {tg : Tg} {el : Ev} {items : List D} {src : Src} (f : D → Bool) (hit : it ρ S = some (.ok ⟨items, src⟩ S)) (hl : items.length < sizeLine) (hok : ∀ acc, src.ok (S ++ [.lst acc]))
    (he : ∀ d ∈ items, ∃ ρ1, tg.asg d (own.foldr (fun i ρ => ρ.set i none) ρ) = some ρ1 ∧ ∀ acc, PM (el ρ1) (S ++ [.lst acc]) fun y S' => y = .bl (f d) ∧ S' = S ++ [.lst acc])
    (hQ : Q (.bl (items.all f)) S) : PM (eDrop (eUn fAll (eComp own it tg tTrue el)) ρ) S Q := by
  rw [PM_eDrop, PM_eUn]
  refine PM_mapD (fun d => .bl (f d)) hit hl hok he ?_
  have e : items.map (fun d => D.bl (f d)) = (items.map f).map D.bl := by rw [List.map_map]; rfl
  have hb : asBls (items.map fun d => D.bl (f d)) = some (items.map f) := by rw [e]; exact asBls_bl _
  rw [PM_allL get_last hb, drop_pl (by trivial)]
  have e2 : (items.map f).all id = items.all f := by rw [List.all_map]; rfl
  rw [e2]; exact hQ
theorem it_tup {e : Ev} {xs : List D} (h : PM (e ρ) S fun d S' => d = .tup xs ∧ S' = S) : iSeq e ρ S = some (.ok ⟨xs, .non⟩ S) := fn_eq (by
  rw [PM_iSeq]
  refine h.imp ?_
  rintro d S' ⟨rfl, rfl⟩
  rw [PM_seqT]
  exact ⟨rfl, rfl⟩)
theorem slot_eq {i : Nat} {d : D} (h : ρ[i]? = some (some d)) : PM (eSlot i ρ) S fun d' S' => d' = d ∧ S' = S := by rw [PM_slot h]; exact ⟨rfl, rfl⟩
/-- no list in the store -/
def Pl : D → Prop
  | .non => True
  | .bl _ => True
  | .int _ => True
  | .str _ => True
  | .tup _ => True
  | _ => False
def isW : D → Bool
  | .int _ => true
  | _ => false
theorem m_whole {d : D} (hd : Pl d) : (CC (k + 1)).fn 25 [d] S = some (.ok (.bl (isW d)) S) := by
  refine fn_eq (PM_fn rfl rfl rfl ?_)
  unfold b_is_whole
  cases d with
  | non => simp only [PM_ret, PM_bind, PM_guard, PM_slot', PM_eC, PM_eOp, PM_eUn, PM_eT, PM_tV, PM_eAnd, PM_eOr, PM_tAnd, PM_tOr, PM_tNot, PM_eIf, PM_tIf, PM_tCmp, PM_tChn, PM_last, PM_more, PM_aNil, PM_aCons, PM_eTup, PM_eLst, PM_eCall, PM_eNew, PM_eDrop, PM_add, PM_sub, PM_mul, PM_fdiv, PM_mod, PM_pow, PM_neg, PM_lt, PM_le, PM_gt, PM_ge, PM_eqi, PM_nei, own_int, own_bl, own_tup, own_str, PM_isNon, PM_isBl, PM_isnot, PM_tbl, PM_tint, PM_tnon, PM_ttup, PM_lenT, PM_lenF, PM_int, PM_abs, PM_tupT, PM_lstF, PM_ixT, PM_eM, PM_iSeq, PM_seqT, PM_seqF, PM_rng1, PM_rng2, PM_enum, PZ_bind, PZ_nx, PZ_bk, PZ_ct, PZ_rt, SQ_nx, SQ_rt, SQ_ct, SQ_bk, TQ_nx, TQ_ct, TQ_bk, TQ_rt, PZ_seq, PZ_ret, PZ_drop, PZ_if, PZ_asg, PZ_one, PZ_par, PZ_allN, PZ_allC, PZ_tup, PZ_sub, PZ_fld, PZ_for, List.getElem?_cons_zero, List.getElem?_cons_succ, Option.some.injEq, exists_eq_left', exists_eq_left, List.set_cons_zero, List.set_cons_succ, setAll, List.length_cons, List.length_nil, List.map_cons, List.map_nil, Nat.reduceAdd, Nat.reduceSub, List.replicate, List.cons_append, List.nil_append, true_and, and_true, Bool.not_true, Bool.not_false, if_true, if_false, Bool.false_eq_true, D.int.injEq, D.isNon, D.isBl, Nat.reduceLeDiff, dropR_len, Nat.le_refl, ite_true, ite_false, reduceCtorEq, PM_isiN, PM_isiB, PM_isiI, PM_isiS, PM_isiT, isT_ty, bs_NoneType_NoneType, bs_NoneType_bool, bs_NoneType_int, bs_NoneType_str, bs_NoneType_list, bs_NoneType_tuple, bs_NoneType_dict, bs_bool_NoneType, bs_bool_bool, bs_bool_int, bs_bool_str, bs_bool_list, bs_bool_tuple, bs_bool_dict, bs_int_NoneType, bs_int_bool, bs_int_int, bs_int_str, bs_int_list, bs_int_tuple, bs_int_dict, bs_str_NoneType, bs_str_bool, bs_str_int, bs_str_str, bs_str_list, bs_str_tuple, bs_str_dict, bs_list_NoneType, bs_list_bool, bs_list_int, bs_list_str, bs_list_list, bs_list_tuple, bs_list_dict, bs_tuple_NoneType, bs_tuple_bool, bs_tuple_int, bs_tuple_str, bs_tuple_list, bs_tuple_tuple, bs_tuple_dict, bs_dict_NoneType, bs_dict_bool, bs_dict_int, bs_dict_str, bs_dict_list, bs_dict_tuple, bs_dict_dict]; rfl
  | bl b => simp only [PM_ret, PM_bind, PM_guard, PM_slot', PM_eC, PM_eOp, PM_eUn, PM_eT, PM_tV, PM_eAnd, PM_eOr, PM_tAnd, PM_tOr, PM_tNot, PM_eIf, PM_tIf, PM_tCmp, PM_tChn, PM_last, PM_more, PM_aNil, PM_aCons, PM_eTup, PM_eLst, PM_eCall, PM_eNew, PM_eDrop, PM_add, PM_sub, PM_mul, PM_fdiv, PM_mod, PM_pow, PM_neg, PM_lt, PM_le, PM_gt, PM_ge, PM_eqi, PM_nei, own_int, own_bl, own_tup, own_str, PM_isNon, PM_isBl, PM_isnot, PM_tbl, PM_tint, PM_tnon, PM_ttup, PM_lenT, PM_lenF, PM_int, PM_abs, PM_tupT, PM_lstF, PM_ixT, PM_eM, PM_iSeq, PM_seqT, PM_seqF, PM_rng1, PM_rng2, PM_enum, PZ_bind, PZ_nx, PZ_bk, PZ_ct, PZ_rt, SQ_nx, SQ_rt, SQ_ct, SQ_bk, TQ_nx, TQ_ct, TQ_bk, TQ_rt, PZ_seq, PZ_ret, PZ_drop, PZ_if, PZ_asg, PZ_one, PZ_par, PZ_allN, PZ_allC, PZ_tup, PZ_sub, PZ_fld, PZ_for, List.getElem?_cons_zero, List.getElem?_cons_succ, Option.some.injEq, exists_eq_left', exists_eq_left, List.set_cons_zero, List.set_cons_succ, setAll, List.length_cons, List.length_nil, List.map_cons, List.map_nil, Nat.reduceAdd, Nat.reduceSub, List.replicate, List.cons_append, List.nil_append, true_and, and_true, Bool.not_true, Bool.not_false, if_true, if_false, Bool.false_eq_true, D.int.injEq, D.isNon, D.isBl, Nat.reduceLeDiff, dropR_len, Nat.le_refl, ite_true, ite_false, reduceCtorEq, PM_isiN, PM_isiB, PM_isiI, PM_isiS, PM_isiT, isT_ty, bs_NoneType_NoneType, bs_NoneType_bool, bs_NoneType_int, bs_NoneType_str, bs_NoneType_list, bs_NoneType_tuple, bs_NoneType_dict, bs_bool_NoneType, bs_bool_bool, bs_bool_int, bs_bool_str, bs_bool_list, bs_bool_tuple, bs_bool_dict, bs_int_NoneType, bs_int_bool, bs_int_int, bs_int_str, bs_int_list, bs_int_tuple, bs_int_dict, bs_str_NoneType, bs_str_bool, bs_str_int, bs_str_str, bs_str_list, bs_str_tuple, bs_str_dict, bs_list_NoneType, bs_list_bool, bs_list_int, bs_list_str, bs_list_list, bs_list_tuple, bs_list_dict, bs_tuple_NoneType, bs_tuple_bool, bs_tuple_int, bs_tuple_str, bs_tuple_list, bs_tuple_tuple, bs_tuple_dict, bs_dict_NoneType, bs_dict_bool, bs_dict_int, bs_dict_str, bs_dict_list, bs_dict_tuple, bs_dict_dict]; rfl
  | int i => simp only [PM_ret, PM_bind, PM_guard, PM_slot', PM_eC, PM_eOp, PM_eUn, PM_eT, PM_tV, PM_eAnd, PM_eOr, PM_tAnd, PM_tOr, PM_tNot, PM_eIf, PM_tIf, PM_tCmp, PM_tChn, PM_last, PM_more, PM_aNil, PM_aCons, PM_eTup, PM_eLst, PM_eCall, PM_eNew, PM_eDrop, PM_add, PM_sub, PM_mul, PM_fdiv, PM_mod, PM_pow, PM_neg, PM_lt, PM_le, PM_gt, PM_ge, PM_eqi, PM_nei, own_int, own_bl, own_tup, own_str, PM_isNon, PM_isBl, PM_isnot, PM_tbl, PM_tint, PM_tnon, PM_ttup, PM_lenT, PM_lenF, PM_int, PM_abs, PM_tupT, PM_lstF, PM_ixT, PM_eM, PM_iSeq, PM_seqT, PM_seqF, PM_rng1, PM_rng2, PM_enum, PZ_bind, PZ_nx, PZ_bk, PZ_ct, PZ_rt, SQ_nx, SQ_rt, SQ_ct, SQ_bk, TQ_nx, TQ_ct, TQ_bk, TQ_rt, PZ_seq, PZ_ret, PZ_drop, PZ_if, PZ_asg, PZ_one, PZ_par, PZ_allN, PZ_allC, PZ_tup, PZ_sub, PZ_fld, PZ_for, List.getElem?_cons_zero, List.getElem?_cons_succ, Option.some.injEq, exists_eq_left', exists_eq_left, List.set_cons_zero, List.set_cons_succ, setAll, List.length_cons, List.length_nil, List.map_cons, List.map_nil, Nat.reduceAdd, Nat.reduceSub, List.replicate, List.cons_append, List.nil_append, true_and, and_true, Bool.not_true, Bool.not_false, if_true, if_false, Bool.false_eq_true, D.int.injEq, D.isNon, D.isBl, Nat.reduceLeDiff, dropR_len, Nat.le_refl, ite_true, ite_false, reduceCtorEq, PM_isiN, PM_isiB, PM_isiI, PM_isiS, PM_isiT, isT_ty, bs_NoneType_NoneType, bs_NoneType_bool, bs_NoneType_int, bs_NoneType_str, bs_NoneType_list, bs_NoneType_tuple, bs_NoneType_dict, bs_bool_NoneType, bs_bool_bool, bs_bool_int, bs_bool_str, bs_bool_list, bs_bool_tuple, bs_bool_dict, bs_int_NoneType, bs_int_bool, bs_int_int, bs_int_str, bs_int_list, bs_int_tuple, bs_int_dict, bs_str_NoneType, bs_str_bool, bs_str_int, bs_str_str, bs_str_list, bs_str_tuple, bs_str_dict, bs_list_NoneType, bs_list_bool, bs_list_int, bs_list_str, bs_list_list, bs_list_tuple, bs_list_dict, bs_tuple_NoneType, bs_tuple_bool, bs_tuple_int, bs_tuple_str, bs_tuple_list, bs_tuple_tuple, bs_tuple_dict, bs_dict_NoneType, bs_dict_bool, bs_dict_int, bs_dict_str, bs_dict_list, bs_dict_tuple, bs_dict_dict]; rfl
  | str i => simp only [PM_ret, PM_bind, PM_guard, PM_slot', PM_eC, PM_eOp, PM_eUn, PM_eT, PM_tV, PM_eAnd, PM_eOr, PM_tAnd, PM_tOr, PM_tNot, PM_eIf, PM_tIf, PM_tCmp, PM_tChn, PM_last, PM_more, PM_aNil, PM_aCons, PM_eTup, PM_eLst, PM_eCall, PM_eNew, PM_eDrop, PM_add, PM_sub, PM_mul, PM_fdiv, PM_mod, PM_pow, PM_neg, PM_lt, PM_le, PM_gt, PM_ge, PM_eqi, PM_nei, own_int, own_bl, own_tup, own_str, PM_isNon, PM_isBl, PM_isnot, PM_tbl, PM_tint, PM_tnon, PM_ttup, PM_lenT, PM_lenF, PM_int, PM_abs, PM_tupT, PM_lstF, PM_ixT, PM_eM, PM_iSeq, PM_seqT, PM_seqF, PM_rng1, PM_rng2, PM_enum, PZ_bind, PZ_nx, PZ_bk, PZ_ct, PZ_rt, SQ_nx, SQ_rt, SQ_ct, SQ_bk, TQ_nx, TQ_ct, TQ_bk, TQ_rt, PZ_seq, PZ_ret, PZ_drop, PZ_if, PZ_asg, PZ_one, PZ_par, PZ_allN, PZ_allC, PZ_tup, PZ_sub, PZ_fld, PZ_for, List.getElem?_cons_zero, List.getElem?_cons_succ, Option.some.injEq, exists_eq_left', exists_eq_left, List.set_cons_zero, List.set_cons_succ, setAll, List.length_cons, List.length_nil, List.map_cons, List.map_nil, Nat.reduceAdd, Nat.reduceSub, List.replicate, List.cons_append, List.nil_append, true_and, and_true, Bool.not_true, Bool.not_false, if_true, if_false, Bool.false_eq_true, D.int.injEq, D.isNon, D.isBl, Nat.reduceLeDiff, dropR_len, Nat.le_refl, ite_true, ite_false, reduceCtorEq, PM_isiN, PM_isiB, PM_isiI, PM_isiS, PM_isiT, isT_ty, bs_NoneType_NoneType, bs_NoneType_bool, bs_NoneType_int, bs_NoneType_str, bs_NoneType_list, bs_NoneType_tuple, bs_NoneType_dict, bs_bool_NoneType, bs_bool_bool, bs_bool_int, bs_bool_str, bs_bool_list, bs_bool_tuple, bs_bool_dict, bs_int_NoneType, bs_int_bool, bs_int_int, bs_int_str, bs_int_list, bs_int_tuple, bs_int_dict, bs_str_NoneType, bs_str_bool, bs_str_int, bs_str_str, bs_str_list, bs_str_tuple, bs_str_dict, bs_list_NoneType, bs_list_bool, bs_list_int, bs_list_str, bs_list_list, bs_list_tuple, bs_list_dict, bs_tuple_NoneType, bs_tuple_bool, bs_tuple_int, bs_tuple_str, bs_tuple_list, bs_tuple_tuple, bs_tuple_dict, bs_dict_NoneType, bs_dict_bool, bs_dict_int, bs_dict_str, bs_dict_list, bs_dict_tuple, bs_dict_dict]; rfl
  | tup i => simp only [PM_ret, PM_bind, PM_guard, PM_slot', PM_eC, PM_eOp, PM_eUn, PM_eT, PM_tV, PM_eAnd, PM_eOr, PM_tAnd, PM_tOr, PM_tNot, PM_eIf, PM_tIf, PM_tCmp, PM_tChn, PM_last, PM_more, PM_aNil, PM_aCons, PM_eTup, PM_eLst, PM_eCall, PM_eNew, PM_eDrop, PM_add, PM_sub, PM_mul, PM_fdiv, PM_mod, PM_pow, PM_neg, PM_lt, PM_le, PM_gt, PM_ge, PM_eqi, PM_nei, own_int, own_bl, own_tup, own_str, PM_isNon, PM_isBl, PM_isnot, PM_tbl, PM_tint, PM_tnon, PM_ttup, PM_lenT, PM_lenF, PM_int, PM_abs, PM_tupT, PM_lstF, PM_ixT, PM_eM, PM_iSeq, PM_seqT, PM_seqF, PM_rng1, PM_rng2, PM_enum, PZ_bind, PZ_nx, PZ_bk, PZ_ct, PZ_rt, SQ_nx, SQ_rt, SQ_ct, SQ_bk, TQ_nx, TQ_ct, TQ_bk, TQ_rt, PZ_seq, PZ_ret, PZ_drop, PZ_if, PZ_asg, PZ_one, PZ_par, PZ_allN, PZ_allC, PZ_tup, PZ_sub, PZ_fld, PZ_for, List.getElem?_cons_zero, List.getElem?_cons_succ, Option.some.injEq, exists_eq_left', exists_eq_left, List.set_cons_zero, List.set_cons_succ, setAll, List.length_cons, List.length_nil, List.map_cons, List.map_nil, Nat.reduceAdd, Nat.reduceSub, List.replicate, List.cons_append, List.nil_append, true_and, and_true, Bool.not_true, Bool.not_false, if_true, if_false, Bool.false_eq_true, D.int.injEq, D.isNon, D.isBl, Nat.reduceLeDiff, dropR_len, Nat.le_refl, ite_true, ite_false, reduceCtorEq, PM_isiN, PM_isiB, PM_isiI, PM_isiS, PM_isiT, isT_ty, bs_NoneType_NoneType, bs_NoneType_bool, bs_NoneType_int, bs_NoneType_str, bs_NoneType_list, bs_NoneType_tuple, bs_NoneType_dict, bs_bool_NoneType, bs_bool_bool, bs_bool_int, bs_bool_str, bs_bool_list, bs_bool_tuple, bs_bool_dict, bs_int_NoneType, bs_int_bool, bs_int_int, bs_int_str, bs_int_list, bs_int_tuple, bs_int_dict, bs_str_NoneType, bs_str_bool, bs_str_int, bs_str_str, bs_str_list, bs_str_tuple, bs_str_dict, bs_list_NoneType, bs_list_bool, bs_list_int, bs_list_str, bs_list_list, bs_list_tuple, bs_list_dict, bs_tuple_NoneType, bs_tuple_bool, bs_tuple_int, bs_tuple_str, bs_tuple_list, bs_tuple_tuple, bs_tuple_dict, bs_dict_NoneType, bs_dict_bool, bs_dict_int, bs_dict_str, bs_dict_list, bs_dict_tuple, bs_dict_dict]; rfl
  | _ => exact hd.elim
theorem e_lwhole {d : D} (hd : Pl d) : (CC (k + 1)).fn 58 [d] S = some (.ok (.bl (isW d)) S) := by
  refine fn_eq (PM_fn rfl rfl rfl ?_)
  unfold b__law_whole
  cases d with
  | non => simp only [PM_ret, PM_bind, PM_guard, PM_slot', PM_eC, PM_eOp, PM_eUn, PM_eT, PM_tV, PM_eAnd, PM_eOr, PM_tAnd, PM_tOr, PM_tNot, PM_eIf, PM_tIf, PM_tCmp, PM_tChn, PM_last, PM_more, PM_aNil, PM_aCons, PM_eTup, PM_eLst, PM_eCall, PM_eNew, PM_eDrop, PM_add, PM_sub, PM_mul, PM_fdiv, PM_mod, PM_pow, PM_neg, PM_lt, PM_le, PM_gt, PM_ge, PM_eqi, PM_nei, own_int, own_bl, own_tup, own_str, PM_isNon, PM_isBl, PM_isnot, PM_tbl, PM_tint, PM_tnon, PM_ttup, PM_lenT, PM_lenF, PM_int, PM_abs, PM_tupT, PM_lstF, PM_ixT, PM_eM, PM_iSeq, PM_seqT, PM_seqF, PM_rng1, PM_rng2, PM_enum, PZ_bind, PZ_nx, PZ_bk, PZ_ct, PZ_rt, SQ_nx, SQ_rt, SQ_ct, SQ_bk, TQ_nx, TQ_ct, TQ_bk, TQ_rt, PZ_seq, PZ_ret, PZ_drop, PZ_if, PZ_asg, PZ_one, PZ_par, PZ_allN, PZ_allC, PZ_tup, PZ_sub, PZ_fld, PZ_for, List.getElem?_cons_zero, List.getElem?_cons_succ, Option.some.injEq, exists_eq_left', exists_eq_left, List.set_cons_zero, List.set_cons_succ, setAll, List.length_cons, List.length_nil, List.map_cons, List.map_nil, Nat.reduceAdd, Nat.reduceSub, List.replicate, List.cons_append, List.nil_append, true_and, and_true, Bool.not_true, Bool.not_false, if_true, if_false, Bool.false_eq_true, D.int.injEq, D.isNon, D.isBl, Nat.reduceLeDiff, dropR_len, Nat.le_refl, ite_true, ite_false, reduceCtorEq, PM_isiN, PM_isiB, PM_isiI, PM_isiS, PM_isiT, isT_ty, bs_NoneType_NoneType, bs_NoneType_bool, bs_NoneType_int, bs_NoneType_str, bs_NoneType_list, bs_NoneType_tuple, bs_NoneType_dict, bs_bool_NoneType, bs_bool_bool, bs_bool_int, bs_bool_str, bs_bool_list, bs_bool_tuple, bs_bool_dict, bs_int_NoneType, bs_int_bool, bs_int_int, bs_int_str, bs_int_list, bs_int_tuple, bs_int_dict, bs_str_NoneType, bs_str_bool, bs_str_int, bs_str_str, bs_str_list, bs_str_tuple, bs_str_dict, bs_list_NoneType, bs_list_bool, bs_list_int, bs_list_str, bs_list_list, bs_list_tuple, bs_list_dict, bs_tuple_NoneType, bs_tuple_bool, bs_tuple_int, bs_tuple_str, bs_tuple_list, bs_tuple_tuple, bs_tuple_dict, bs_dict_NoneType, bs_dict_bool, bs_dict_int, bs_dict_str, bs_dict_list, bs_dict_tuple, bs_dict_dict]; rfl
  | bl b => simp only [PM_ret, PM_bind, PM_guard, PM_slot', PM_eC, PM_eOp, PM_eUn, PM_eT, PM_tV, PM_eAnd, PM_eOr, PM_tAnd, PM_tOr, PM_tNot, PM_eIf, PM_tIf, PM_tCmp, PM_tChn, PM_last, PM_more, PM_aNil, PM_aCons, PM_eTup, PM_eLst, PM_eCall, PM_eNew, PM_eDrop, PM_add, PM_sub, PM_mul, PM_fdiv, PM_mod, PM_pow, PM_neg, PM_lt, PM_le, PM_gt, PM_ge, PM_eqi, PM_nei, own_int, own_bl, own_tup, own_str, PM_isNon, PM_isBl, PM_isnot, PM_tbl, PM_tint, PM_tnon, PM_ttup, PM_lenT, PM_lenF, PM_int, PM_abs, PM_tupT, PM_lstF, PM_ixT, PM_eM, PM_iSeq, PM_seqT, PM_seqF, PM_rng1, PM_rng2, PM_enum, PZ_bind, PZ_nx, PZ_bk, PZ_ct, PZ_rt, SQ_nx, SQ_rt, SQ_ct, SQ_bk, TQ_nx, TQ_ct, TQ_bk, TQ_rt, PZ_seq, PZ_ret, PZ_drop, PZ_if, PZ_asg, PZ_one, PZ_par, PZ_allN, PZ_allC, PZ_tup, PZ_sub, PZ_fld, PZ_for, List.getElem?_cons_zero, List.getElem?_cons_succ, Option.some.injEq, exists_eq_left', exists_eq_left, List.set_cons_zero, List.set_cons_succ, setAll, List.length_cons, List.length_nil, List.map_cons, List.map_nil, Nat.reduceAdd, Nat.reduceSub, List.replicate, List.cons_append, List.nil_append, true_and, and_true, Bool.not_true, Bool.not_false, if_true, if_false, Bool.false_eq_true, D.int.injEq, D.isNon, D.isBl, Nat.reduceLeDiff, dropR_len, Nat.le_refl, ite_true, ite_false, reduceCtorEq, PM_isiN, PM_isiB, PM_isiI, PM_isiS, PM_isiT, isT_ty, bs_NoneType_NoneType, bs_NoneType_bool, bs_NoneType_int, bs_NoneType_str, bs_NoneType_list, bs_NoneType_tuple, bs_NoneType_dict, bs_bool_NoneType, bs_bool_bool, bs_bool_int, bs_bool_str, bs_bool_list, bs_bool_tuple, bs_bool_dict, bs_int_NoneType, bs_int_bool, bs_int_int, bs_int_str, bs_int_list, bs_int_tuple, bs_int_dict, bs_str_NoneType, bs_str_bool, bs_str_int, bs_str_str, bs_str_list, bs_str_tuple, bs_str_dict, bs_list_NoneType, bs_list_bool, bs_list_int, bs_list_str, bs_list_list, bs_list_tuple, bs_list_dict, bs_tuple_NoneType, bs_tuple_bool, bs_tuple_int, bs_tuple_str, bs_tuple_list, bs_tuple_tuple, bs_tuple_dict, bs_dict_NoneType, bs_dict_bool, bs_dict_int, bs_dict_str, bs_dict_list, bs_dict_tuple, bs_dict_dict]; rfl
  | int i => simp only [PM_ret, PM_bind, PM_guard, PM_slot', PM_eC, PM_eOp, PM_eUn, PM_eT, PM_tV, PM_eAnd, PM_eOr, PM_tAnd, PM_tOr, PM_tNot, PM_eIf, PM_tIf, PM_tCmp, PM_tChn, PM_last, PM_more, PM_aNil, PM_aCons, PM_eTup, PM_eLst, PM_eCall, PM_eNew, PM_eDrop, PM_add, PM_sub, PM_mul, PM_fdiv, PM_mod, PM_pow, PM_neg, PM_lt, PM_le, PM_gt, PM_ge, PM_eqi, PM_nei, own_int, own_bl, own_tup, own_str, PM_isNon, PM_isBl, PM_isnot, PM_tbl, PM_tint, PM_tnon, PM_ttup, PM_lenT, PM_lenF, PM_int, PM_abs, PM_tupT, PM_lstF, PM_ixT, PM_eM, PM_iSeq, PM_seqT, PM_seqF, PM_rng1, PM_rng2, PM_enum, PZ_bind, PZ_nx, PZ_bk, PZ_ct, PZ_rt, SQ_nx, SQ_rt, SQ_ct, SQ_bk, TQ_nx, TQ_ct, TQ_bk, TQ_rt, PZ_seq, PZ_ret, PZ_drop, PZ_if, PZ_asg, PZ_one, PZ_par, PZ_allN, PZ_allC, PZ_tup, PZ_sub, PZ_fld, PZ_for, List.getElem?_cons_zero, List.getElem?_cons_succ, Option.some.injEq, exists_eq_left', exists_eq_left, List.set_cons_zero, List.set_cons_succ, setAll, List.length_cons, List.length_nil, List.map_cons, List.map_nil, Nat.reduceAdd, Nat.reduceSub, List.replicate, List.cons_append, List.nil_append, true_and, and_true, Bool.not_true, Bool.not_false, if_true, if_false, Bool.false_eq_true, D.int.injEq, D.isNon, D.isBl, Nat.reduceLeDiff, dropR_len, Nat.le_refl, ite_true, ite_false, reduceCtorEq, PM_isiN, PM_isiB, PM_isiI, PM_isiS, PM_isiT, isT_ty, bs_NoneType_NoneType, bs_NoneType_bool, bs_NoneType_int, bs_NoneType_str, bs_NoneType_list, bs_NoneType_tuple, bs_NoneType_dict, bs_bool_NoneType, bs_bool_bool, bs_bool_int, bs_bool_str, bs_bool_list, bs_bool_tuple, bs_bool_dict, bs_int_NoneType, bs_int_bool, bs_int_int, bs_int_str, bs_int_list, bs_int_tuple, bs_int_dict, bs_str_NoneType, bs_str_bool, bs_str_int, bs_str_str, bs_str_list, bs_str_tuple, bs_str_dict, bs_list_NoneType, bs_list_bool, bs_list_int, bs_list_str, bs_list_list, bs_list_tuple, bs_list_dict, bs_tuple_NoneType, bs_tuple_bool, bs_tuple_int, bs_tuple_str, bs_tuple_list, bs_tuple_tuple, bs_tuple_dict, bs_dict_NoneType, bs_dict_bool, bs_dict_int, bs_dict_str, bs_dict_list, bs_dict_tuple, bs_dict_dict]; rfl
  | str i => simp only [PM_ret, PM_bind, PM_guard, PM_slot', PM_eC, PM_eOp, PM_eUn, PM_eT, PM_tV, PM_eAnd, PM_eOr, PM_tAnd, PM_tOr, PM_tNot, PM_eIf, PM_tIf, PM_tCmp, PM_tChn, PM_last, PM_more, PM_aNil, PM_aCons, PM_eTup, PM_eLst, PM_eCall, PM_eNew, PM_eDrop, PM_add, PM_sub, PM_mul, PM_fdiv, PM_mod, PM_pow, PM_neg, PM_lt, PM_le, PM_gt, PM_ge, PM_eqi, PM_nei, own_int, own_bl, own_tup, own_str, PM_isNon, PM_isBl, PM_isnot, PM_tbl, PM_tint, PM_tnon, PM_ttup, PM_lenT, PM_lenF, PM_int, PM_abs, PM_tupT, PM_lstF, PM_ixT, PM_eM, PM_iSeq, PM_seqT, PM_seqF, PM_rng1, PM_rng2, PM_enum, PZ_bind, PZ_nx, PZ_bk, PZ_ct, PZ_rt, SQ_nx, SQ_rt, SQ_ct, SQ_bk, TQ_nx, TQ_ct, TQ_bk, TQ_rt, PZ_seq, PZ_ret, PZ_drop, PZ_if, PZ_asg, PZ_one, PZ_par, PZ_allN, PZ_allC, PZ_tup, PZ_sub, PZ_fld, PZ_for, List.getElem?_cons_zero, List.getElem?_cons_succ, Option.some.injEq, exists_eq_left', exists_eq_left, List.set_cons_zero, List.set_cons_succ, setAll, List.length_cons, List.length_nil, List.map_cons, List.map_nil, Nat.reduceAdd, Nat.reduceSub, List.replicate, List.cons_append, List.nil_append, true_and, and_true, Bool.not_true, Bool.not_false, if_true, if_false, Bool.false_eq_true, D.int.injEq, D.isNon, D.isBl, Nat.reduceLeDiff, dropR_len, Nat.le_refl, ite_true, ite_false, reduceCtorEq, PM_isiN, PM_isiB, PM_isiI, PM_isiS, PM_isiT, isT_ty, bs_NoneType_NoneType, bs_NoneType_bool, bs_NoneType_int, bs_NoneType_str, bs_NoneType_list, bs_NoneType_tuple, bs_NoneType_dict, bs_bool_NoneType, bs_bool_bool, bs_bool_int, bs_bool_str, bs_bool_list, bs_bool_tuple, bs_bool_dict, bs_int_NoneType, bs_int_bool, bs_int_int, bs_int_str, bs_int_list, bs_int_tuple, bs_int_dict, bs_str_NoneType, bs_str_bool, bs_str_int, bs_str_str, bs_str_list, bs_str_tuple, bs_str_dict, bs_list_NoneType, bs_list_bool, bs_list_int, bs_list_str, bs_list_list, bs_list_tuple, bs_list_dict, bs_tuple_NoneType, bs_tuple_bool, bs_tuple_int, bs_tuple_str, bs_tuple_list, bs_tuple_tuple, bs_tuple_dict, bs_dict_NoneType, bs_dict_bool, bs_dict_int, bs_dict_str, bs_dict_list, bs_dict_tuple, bs_dict_dict]; rfl
  | tup i => simp only [PM_ret, PM_bind, PM_guard, PM_slot', PM_eC, PM_eOp, PM_eUn, PM_eT, PM_tV, PM_eAnd, PM_eOr, PM_tAnd, PM_tOr, PM_tNot, PM_eIf, PM_tIf, PM_tCmp, PM_tChn, PM_last, PM_more, PM_aNil, PM_aCons, PM_eTup, PM_eLst, PM_eCall, PM_eNew, PM_eDrop, PM_add, PM_sub, PM_mul, PM_fdiv, PM_mod, PM_pow, PM_neg, PM_lt, PM_le, PM_gt, PM_ge, PM_eqi, PM_nei, own_int, own_bl, own_tup, own_str, PM_isNon, PM_isBl, PM_isnot, PM_tbl, PM_tint, PM_tnon, PM_ttup, PM_lenT, PM_lenF, PM_int, PM_abs, PM_tupT, PM_lstF, PM_ixT, PM_eM, PM_iSeq, PM_seqT, PM_seqF, PM_rng1, PM_rng2, PM_enum, PZ_bind, PZ_nx, PZ_bk, PZ_ct, PZ_rt, SQ_nx, SQ_rt, SQ_ct, SQ_bk, TQ_nx, TQ_ct, TQ_bk, TQ_rt, PZ_seq, PZ_ret, PZ_drop, PZ_if, PZ_asg, PZ_one, PZ_par, PZ_allN, PZ_allC, PZ_tup, PZ_sub, PZ_fld, PZ_for, List.getElem?_cons_zero, List.getElem?_cons_succ, Option.some.injEq, exists_eq_left', exists_eq_left, List.set_cons_zero, List.set_cons_succ, setAll, List.length_cons, List.length_nil, List.map_cons, List.map_nil, Nat.reduceAdd, Nat.reduceSub, List.replicate, List.cons_append, List.nil_append, true_and, and_true, Bool.not_true, Bool.not_false, if_true, if_false, Bool.false_eq_true, D.int.injEq, D.isNon, D.isBl, Nat.reduceLeDiff, dropR_len, Nat.le_refl, ite_true, ite_false, reduceCtorEq, PM_isiN, PM_isiB, PM_isiI, PM_isiS, PM_isiT, isT_ty, bs_NoneType_NoneType, bs_NoneType_bool, bs_NoneType_int, bs_NoneType_str, bs_NoneType_list, bs_NoneType_tuple, bs_NoneType_dict, bs_bool_NoneType, bs_bool_bool, bs_bool_int, bs_bool_str, bs_bool_list, bs_bool_tuple, bs_bool_dict, bs_int_NoneType, bs_int_bool, bs_int_int, bs_int_str, bs_int_list, bs_int_tuple, bs_int_dict, bs_str_NoneType, bs_str_bool, bs_str_int, bs_str_str, bs_str_list, bs_str_tuple, bs_str_dict, bs_list_NoneType, bs_list_bool, bs_list_int, bs_list_str, bs_list_list, bs_list_tuple, bs_list_dict, bs_tuple_NoneType, bs_tuple_bool, bs_tuple_int, bs_tuple_str, bs_tuple_list, bs_tuple_tuple, bs_tuple_dict, bs_dict_NoneType, bs_dict_bool, bs_dict_int, bs_dict_str, bs_dict_list, bs_dict_tuple, bs_dict_dict]; rfl
  | _ => exact hd.elim
theorem isi_tup {d : D} (hd : Pl d) : PM (fIsi Γ d (.ty "tuple")) S Q ↔ Q (.bl (match d with | .tup _ => true | _ => false)) S := by
  cases d with
  | non => exact PM_isiN (by rw [isT_ty]; exact bs_NoneType_tuple)
  | bl b => exact PM_isiB (by rw [isT_ty]; exact bs_bool_tuple)
  | int i => exact PM_isiI (by rw [isT_ty]; exact bs_int_tuple)
  | str i => exact PM_isiS (by rw [isT_ty]; exact bs_str_tuple)
  | tup i => exact PM_isiT (by rw [isT_ty]; exact bs_tuple_tuple)
  | _ => exact hd.elim
/-- a tuple of plain values, or a plain value -/
def PlT (d : D) : Prop := Pl d ∧ ∀ xs, d = .tup xs → (∀ x ∈ xs, Pl x) ∧ xs.length < 100000
def isRow : D → Bool
  | .tup xs => decide (xs.length ≤ 12) && xs.all isW
  | _ => false
theorem m_isrow {d : D} (hd : PlT d) : (CC (k + 2)).fn 29 [d] S = some (.ok (.bl (isRow d)) S) := by
  refine fn_eq (PM_fnq rfl rfl rfl ?_)
  unfold b_is_row
  change PZ _ [some d, none] _ _
  have big := sizeLine_big
  rw [PZ_ret, PM_eAnd, PM_eOp, PM_slot (i := 0) (d := d) rfl, PM_eC, isi_tup hd.1, PM_tbl]
  cases d with
  | tup xs =>
    obtain ⟨h1, h2⟩ := hd.2 xs rfl
    rw [if_pos rfl, PM_eAnd, PM_eT, PM_tCmp, PM_eUn, PM_slot (i := 0) (d := .tup xs) rfl, PM_lenT, PM_eC, PM_le, PM_tbl]
    by_cases hl : (xs.length : Int) ≤ 12
    · rw [decide_eq_true hl, if_pos rfl]
      refine PM_allD isW (it_tup (slot_eq rfl)) (by omega) (fun _ => trivial) (fun d hd => ⟨_, rfl, fun acc => ?_⟩) ?_
      · rw [PM_eCall, PM_aCons, PM_slot (i := 1) (d := d) rfl, PM_aNil]
        refine ⟨rfl, ?_⟩
        rw [PM_of (m_whole (h1 d hd))]
        exact ⟨rfl, rfl⟩
      · rw [FQ_rt]
        have : isRow (.tup xs) = xs.all isW := by
          show (decide (xs.length ≤ 12) && xs.all isW) = _
          rw [decide_eq_true (by omega), Bool.true_and]
        rw [this]
        exact ⟨rfl, dropR_len (Nat.le_refl _)⟩
    · rw [decide_eq_false hl, if_neg (by simp), FQ_rt]
      have : isRow (.tup xs) = false := by
        show (decide (xs.length ≤ 12) && xs.all isW) = _
        rw [decide_eq_false (by omega), Bool.false_and]
      rw [this]
      exact ⟨rfl, dropR_len (Nat.le_refl _)⟩
  | _ => exact ⟨rfl, dropR_len (Nat.le_refl _)⟩
theorem plT_row {xs : List Int} (h : xs.length < 100000) : PlT (rowD xs) := ⟨trivial, fun ys e => by
  cases e
  exact ⟨fun x hx => by obtain ⟨z, _, rfl⟩ := List.mem_map.mp hx; trivial, by rw [List.length_map]; exact h⟩⟩
theorem all_int {xs : List Int} : (xs.map D.int).all isW = true := by
  rw [List.all_map, List.all_eq_true]; intro x _; rfl
theorem isRow_row {xs : List Int} (h : xs.length ≤ 12) : isRow (rowD xs) = true := by
  show (decide ((xs.map D.int).length ≤ 12) && (xs.map D.int).all isW) = true
  rw [all_int, Bool.and_true, List.length_map, decide_eq_true h]
theorem m_rowof {xs : List Int} {w : Nat} (h : xs.length = w) (hw : w ≤ 12) : (CC (k + 3)).fn 30 [rowD xs, .int (w : Nat)] S = some (.ok (.bl true) S) := by
  refine fn_eq (PM_fnq rfl rfl rfl ?_)
  unfold b_is_row_of
  change PZ _ [some (rowD xs), some (.int (w : Nat))] _ _
  rw [PZ_ret, PM_eAnd, PM_eCall, PM_aCons, PM_slot (i := 0) (d := rowD xs) rfl, PM_aNil]
  refine ⟨rfl, ?_⟩
  rw [PM_of (m_isrow (k := k) (plT_row (by omega))), isRow_row (by omega), PM_tbl, if_pos rfl, PM_eT, PM_tCmp, PM_eUn, PM_slot (i := 0) (d := rowD xs) rfl, PM_lenT, PM_slot (i := 1) (d := .int (w : Nat)) rfl, own_int, PM_eqi, List.length_map, decide_eq_true (by omega), FQ_rt]
  exact ⟨rfl, dropR_len (Nat.le_refl _)⟩
theorem m_arerows {n w b : Nat} {R : List (List Int)} (h : RowsOk n w b R) (hn : n ≤ 8) (hw : w ≤ 12) : (CC (k + 4)).fn 31 [tabD R, .int (w : Nat)] S = some (.ok (.bl true) S) := by
  refine fn_eq (PM_fnq rfl rfl rfl ?_)
  unfold b_are_rows
  change PZ _ [some (tabD R), some (.int (w : Nat)), none] _ _
  have big := sizeLine_big
  have hlen := h.1
  rw [PZ_ret, PM_eAnd, PM_eOp, PM_slot (i := 0) (d := tabD R) rfl, PM_eC, isi_tup (by trivial), PM_tbl, if_pos rfl, PM_eAnd, PM_eT, PM_tCmp, PM_eUn, PM_slot (i := 0) (d := tabD R) rfl, PM_lenT, PM_eC, PM_le, PM_tbl, List.length_map, decide_eq_true (by omega), if_pos rfl]
  refine PM_allD (fun _ => true) (it_tup (slot_eq rfl)) (by rw [List.length_map]; omega) (fun _ => trivial) (fun d hd => ⟨_, rfl, fun acc => ?_⟩) ?_
  · obtain ⟨row, hr, rfl⟩ := List.mem_map.mp hd
    rw [PM_eCall, PM_aCons, PM_slot (i := 2) (d := rowD row) rfl, PM_aCons, PM_slot (i := 1) (d := .int (w : Nat)) rfl, PM_aNil]
    refine ⟨rfl, ?_⟩
    rw [PM_of (m_rowof (k := k) (h.2.1 row hr) hw)]
    exact ⟨rfl, rfl⟩
  · rw [FQ_rt]
    have : (R.map rowD).all (fun _ => true) = true := by rw [List.all_eq_true]; intros; rfl
    rw [this]
    exact ⟨rfl, dropR_len (Nat.le_refl _)⟩
theorem m_number {i : Int} (h : 0 ≤ i) : (CC (k + 2)).fn 26 [.int i] S = some (.ok (.bl true) S) := by
  refine fn_eq (PM_fnq rfl rfl rfl ?_)
  unfold b_is_number
  change PZ _ [some (.int i)] _ _
  rw [PZ_ret, PM_eAnd, PM_eCall, PM_aCons, PM_slot (i := 0) (d := .int i) rfl, PM_aNil]
  refine ⟨rfl, ?_⟩
  have hw : isW (.int i) = true := rfl
  rw [PM_of (m_whole (k := k) (by trivial)), hw, PM_tbl, if_pos rfl, PM_eT, PM_tCmp, PM_slot (i := 0) (d := .int i) rfl, PM_eC, PM_ge, decide_eq_true h, FQ_rt]
  exact ⟨rfl, dropR_len (Nat.le_refl _)⟩
/-- a new List -/
theorem n_list {n w b : Nat} {R : List (List Int)} (h : RowsOk n w b R) (hn : n ≤ 8) (hw1 : 1 ≤ w) (hw : w ≤ 8) : (CC (k + 6)).new 0 [.int (w : Nat), tabD R] S = some (.ok (listD w R) S) := by
  refine fn_eq (PM_new (xs := [.int (w : Nat), tabD R]) rfl rfl rfl ?_ rfl ⟨trivial, ?_, trivial⟩ ⟨rfl, rfl⟩)
  · refine PM_fnq rfl rfl rfl ?_
    unfold b_List_init
    change PZ _ [some (.ref S.length), some (.int (w : Nat)), some (tabD R), none] _ _
    rw [PZ_seq, PZ_if, PM_tOr, PM_tNot, PM_tV, PM_eCall, PM_aCons, PM_slot (i := 1) (d := .int (w : Nat)) rfl, PM_aNil]
    refine ⟨rfl, ?_⟩
    rw [PM_of (m_number (k := k + 2) (by omega)), PM_tbl]
    simp only [Bool.not_true, Bool.false_eq_true, if_false]
    rw [PM_tNot, PM_tChn, PM_eC, PM_more, PM_slot (i := 1) (d := .int (w : Nat)) rfl, PM_le, decide_eq_true (by omega), if_pos rfl, PM_last, PM_eC, PM_le, decide_eq_true (by omega)]
    simp only [Bool.not_true, Bool.false_eq_true, if_false]
    rw [PZ_nx, SQ_nx, PZ_seq, PZ_asg, PM_eIf, PM_tV, PM_eOp, PM_slot (i := 2) (d := tabD R) rfl, PM_eC, PM_isiT (by rw [isT_ty]; exact bs_tuple_list), PM_tbl, if_neg (by simp), PM_slot (i := 2) (d := tabD R) rfl, PZ_one, SQ_nx]
    change PZ _ [some (.ref S.length), some (.int (w : Nat)), some (tabD R), some (tabD R)] _ _
    rw [PZ_seq, PZ_if, PM_tNot, PM_tV, PM_eCall, PM_aCons, PM_slot (i := 3) (d := tabD R) rfl, PM_aCons, PM_slot (i := 1) (d := .int (w : Nat)) rfl, PM_aNil]
    refine ⟨rfl, ?_⟩
    rw [PM_of (m_arerows (k := k) h hn (by omega)), PM_tbl]
    simp only [Bool.not_true, Bool.false_eq_true, if_false]
    have f0 : ("width" : Str) ∈ Γ.fields 0 := by decide
    have f1 : ("rows" : Str) ∈ Γ.fields 0 := by decide
    rw [PZ_nx, SQ_nx, PZ_seq, PZ_asg, PM_slot (i := 1) (d := .int (w : Nat)) rfl, PZ_fld, PM_slot (i := 0) (d := .ref S.length) rfl, PM_putF get_last f0 (by simp), SQ_nx, set_last, PZ_asg, PM_slot (i := 3) (d := tabD R) rfl, PZ_fld, PM_slot (i := 0) (d := .ref S.length) rfl, PM_putF get_last f1 (by exact (show 1 < 1000 by decide)), set_last, FQ_nx]
    exact ⟨rfl, dropR_len (by simp)⟩
  · have : ∀ R : List (List Int), belowDs S.length (R.map rowD) := fun R => by
      induction R with
      | nil => trivial
      | cons r R ih => exact ⟨below_ints _, ih⟩
    exact this R
end


section
variable {k : Nat} {S S' S2 : Store} {ρ : En} {Q : D → Store → Prop} {B : Bool → Store → Prop}
theorem depthAll_int : ∀ xs : List Int, PyData.depthAll (xs.map PyData.int) ≤ 1
  | [] => by simp [PyData.depthAll]
  | x :: xs => by
    have := depthAll_int xs
    simp only [List.map_cons, PyData.depthAll, PyData.depth]
    omega
theorem depth_tup (xs : List Int) : PyData.depth (.tuple (xs.map PyData.int)) ≤ 200 := by
  have := depthAll_int xs
  simp only [PyData.depth]
  omega
theorem eqvAll_int : ∀ xs ys : List Int, PyData.eqvAll (xs.map PyData.int) (ys.map PyData.int) = decide (xs = ys)
  | [], [] => by simp [PyData.eqvAll]
  | [], _ :: _ => by simp [PyData.eqvAll]
  | _ :: _, [] => by simp [PyData.eqvAll]
  | x :: xs, y :: ys => by
    simp only [List.map_cons, PyData.eqvAll, eqvAll_int xs ys]
    have : PyData.eqv (.int x) (.int y) = decide (x = y) := rfl
    rw [this]
    simp
theorem PM_eqRow {xs ys : List Int} : PM (cEq (rowD xs) (rowD ys)) S B ↔ B (decide (xs = ys)) S := by
  refine PM_of ?_
  unfold cEq
  have e1 : toPS S (rowD xs) = some (.tuple (xs.map PyData.int)) := toP_row xs
  have e2 : toPS S (rowD ys) = some (.tuple (ys.map PyData.int)) := toP_row ys
  rw [e1, e2]
  simp only
  rw [if_pos (Nat.le_trans (Nat.min_le_left _ _) (depth_tup xs)), show PyData.eqv (.tuple (xs.map PyData.int)) (.tuple (ys.map PyData.int)) = PyData.eqvAll (xs.map PyData.int) (ys.map PyData.int) from rfl, eqvAll_int]
/-! ### numbers in a tuple -/
theorem asInts_some : ∀ {es : List D} {xs : List Int}, asInts es = some xs → es = xs.map .int
  | [], xs, h => by cases h; rfl
  | e :: es, xs, h => by
    unfold asInts at h
    split at h
    · rename_i i is h1
      cases h
      rw [asInts_some h1]; rfl
    · cases h
theorem asInts_isW : ∀ es : List D, (asInts es).isSome = es.all isW
  | [] => rfl
  | e :: es => by
    have ih := asInts_isW es
    unfold asInts
    rw [List.all_cons, ← ih]
    cases e <;> cases asInts es <;> rfl
/-- a drawn entry -/
def EnV (kb : Nat) (e : D) : Prop := (∃ b, e = .bl b) ∨ ∃ i : Int, e = .int i ∧ i.natAbs < 2 ^ kb
def RowV (kb : Nat) (y : D) : Prop := ∃ es, y = .tup es ∧ es.length < 1000 ∧ ∀ e ∈ es, EnV kb e
def TabV (kb : Nat) (t : D) : Prop := t = .non ∨ ∃ ts, t = .tup ts ∧ ts.length < 1000 ∧ ∀ y ∈ ts, RowV kb y
theorem EnV.pl {kb : Nat} {e : D} (h : EnV kb e) : Pl e := by rcases h with ⟨b, rfl⟩ | ⟨i, rfl, _⟩ <;> trivial
theorem RowV.plT {kb : Nat} {y : D} (h : RowV kb y) : PlT y := by
  obtain ⟨es, rfl, h1, h2⟩ := h
  exact ⟨trivial, fun xs e => by cases e; exact ⟨fun x hx => (h2 x hx).pl, by omega⟩⟩
theorem EnV.ints {kb : Nat} {xs : List Int} (h : ∀ e ∈ xs.map D.int, EnV kb e) : small kb xs := fun x hx => by
  rcases h (.int x) (List.mem_map.mpr ⟨x, hx, rfl⟩) with ⟨b, e⟩ | ⟨i, e, hi⟩
  · cases e
  · cases e; exact hi
theorem isRow_ints {es : List D} (h : isRow (.tup es) = true) : ∃ xs : List Int, asInts es = some xs ∧ es = xs.map .int := by
  have h : (decide (es.length ≤ 12) && es.all isW) = true := h
  rw [Bool.and_eq_true, ← asInts_isW, Option.isSome_iff_exists] at h
  obtain ⟨xs, hx⟩ := h.2
  exact ⟨xs, hx, asInts_some hx⟩
theorem mul_sm {kb : Nat} {xs : List Int} {n w b : Nat} {R : List (List Int)} (hkb : 10 ≤ kb) (hkb2 : kb ≤ 10000000) (h : small kb xs) (hR : RowsOk n w b R) (hb : b ≤ 1000) : ∀ m ∈ xs, ∀ row ∈ R, ∀ z ∈ row, mulOk m z := fun m hm row hr z hz =>
  mulOk_b hkb2 (h m hm) (by
    have h1 := hR.2.2 row hr z hz
    have h2 : 2 ^ 10 ≤ 2 ^ kb := p2m hkb
    omega)
theorem PM_ownO {C : Calls} {mt' : Str} {base : D → D → M Bool} {c i : Nat} {xs : List D} {y : D} {b : Bool} (hm : Γ.meth c mt' = some (i, 2)) (hy : okTy Γ S y = true) (h : C.fn i [.obj c xs, y] S = some (.ok (.bl b) S)) : PM (cOwn Γ C mt' base (.obj c xs) y) S B ↔ B b S := by
  refine PM_of ?_
  unfold cOwn clsD
  simp only [hm, hy, and_self, if_true]
  unfold M.bind
  rw [h]; rfl
theorem PM_eqP {a b : D} {p q : PyData} (h1 : toP a = some p) (h2 : toP b = some q) (ha : toPS S a = toP a) (hb : toPS S b = toP b) (hd : p.depth ≤ 200) : PM (cEq a b) S B ↔ B (PyData.eqv p q) S := by
  refine PM_of ?_
  unfold cEq
  rw [ha, hb, h1, h2]
  simp only
  rw [if_pos (Nat.le_trans (Nat.min_le_left _ _) hd)]
theorem toPs_env {kb : Nat} : ∀ {es : List D}, (∀ e ∈ es, EnV kb e) → ∃ ps, toPs es = some ps
  | [], _ => ⟨[], rfl⟩
  | e :: es, h => by
    obtain ⟨ps, hp⟩ := toPs_env (es := es) fun x hx => h x (List.mem_cons_of_mem _ hx)
    obtain ⟨p, hq⟩ : ∃ p, toP e = some p := by
      rcases h e List.mem_cons_self with ⟨b, rfl⟩ | ⟨i, rfl, _⟩
      · exact ⟨_, rfl⟩
      · exact ⟨_, rfl⟩
    exact ⟨p :: ps, by unfold toPs; rw [hq, hp]⟩
theorem filter_empty {es : List D} {f : D → Bool} : (es.filter fun d => !f d).isEmpty = es.all f := by
  induction es with
  | nil => rfl
  | cons x xs ih =>
    rw [List.filter_cons, List.all_cons]
    cases f x with
    | true => simpa using ih
    | false => rfl
theorem filter_emptyL {α : Type} {es : List α} {f : α → Bool} : (es.filter fun d => !f d).isEmpty = es.all f := by
  induction es with
  | nil => rfl
  | cons x xs ih =>
    rw [List.filter_cons, List.all_cons]
    cases f x with
    | true => simpa using ih
    | false => rfl
theorem map_filter_row {f : D → Bool} {R : List (List Int)} : (R.map rowD).filter f = (R.filter fun r => f (rowD r)).map rowD := by
  rw [List.filter_map]; rfl
def mulB (ts row : List Int) (b : Int) : Bool := decide ((List.zipWith (fun x y : Int => x * y) ts row).sum.fmod b = 0)
theorem mult_body {C : Calls} {ts row : List Int} {b : Int} (hl : ts.length < 1000000) (hm : ∀ x ∈ ts, ∀ y ∈ row, mulOk x y) (hb : b ≠ 0) :
    PZ (sRet (eT (tCmp (cOwn Γ C "__eq__" cEq) (eOp oMod (eDrop (eUn fSum (eComp [3, 4] (iZip (eSlot 0) (eSlot 1)) (.many [3, 4]) tTrue (eOp oMul (eSlot 3) (eSlot 4))))) (eSlot 2)) (eC (.int 0))))) [some (rowD ts), some (rowD row), some (.int b), none, none] S
      (FQ S fun d S' => d = .bl (mulB ts row b) ∧ S' = S) := by
  have big := sizeLine_big
  rw [PZ_ret, PM_eT, PM_tCmp, PM_eOp, PM_eDrop, PM_eUn]
  refine PM_zipc (fun x y => x * y) (da := rowD ts) (db := rowD row) (slot_eq rfl) (slot_eq rfl) seq_row seq_row (by omega) (fun x hx y hy acc => ?_) ?_
  · change PM (eOp oMul (eSlot 3) (eSlot 4) [some (rowD ts), some (rowD row), some (.int b), some (.int x), some (.int y)]) _ _
    rw [PM_eOp, PM_slot (i := 3) (d := .int x) rfl, PM_slot (i := 4) (d := .int y) rfl, PM_mul]
    exact ⟨hm x hx y hy, rfl, rfl⟩
  · rw [PM_sumL get_last (asInts_int _), drop_pl (by trivial), PM_slot (i := 2) (d := .int b) rfl, PM_mod]
    refine ⟨hb, ?_⟩
    rw [PM_eC, own_int, PM_eqi, FQ_rt]
    exact ⟨rfl, dropR_len (Nat.le_refl _)⟩
theorem e_mult {ts row : List Int} {b : Int} (hl : ts.length < 1000000) (hm : ∀ x ∈ ts, ∀ y ∈ row, mulOk x y) (hb : b ≠ 0) : (CC (k + 1)).fn 63 [rowD ts, rowD row, .int b] S = some (.ok (.bl (mulB ts row b)) S) := by
  refine fn_eq (PM_fnq rfl rfl rfl ?_)
  unfold b__law_multiple
  exact mult_body hl hm hb
def isIx : D → Nat → Bool
  | .int i, m => decide (0 ≤ i) && decide (i < (m : Int))
  | _, _ => false
theorem m_index {d : D} {m : Nat} (hd : Pl d) : (CC (k + 2)).fn 28 [d, .int (m : Nat)] S = some (.ok (.bl (isIx d m)) S) := by
  refine fn_eq (PM_fnq rfl rfl rfl ?_)
  unfold b_is_index
  change PZ _ [some d, some (.int (m : Nat))] _ _
  rw [PZ_ret, PM_eAnd, PM_eCall, PM_aCons, PM_slot (i := 0) (d := d) rfl, PM_aNil]
  refine ⟨rfl, ?_⟩
  rw [PM_of (m_whole (k := k) hd), PM_tbl]
  cases d with
  | int i =>
    have hw : isW (.int i) = true := rfl
    rw [hw, if_pos rfl, PM_eT, PM_tChn, PM_eC, PM_more, PM_slot (i := 0) (d := .int i) rfl, PM_le]
    have e : isIx (.int i) m = (decide (0 ≤ i) && decide (i < (m : Int))) := rfl
    by_cases h : 0 ≤ i
    · rw [decide_eq_true h, if_pos rfl, PM_last, PM_slot (i := 1) (d := .int (m : Nat)) rfl, PM_lt, FQ_rt, e, decide_eq_true h, Bool.true_and]
      exact ⟨rfl, dropR_len (Nat.le_refl _)⟩
    · rw [decide_eq_false h, if_neg (by simp), FQ_rt, e, decide_eq_false h, Bool.false_and]
      exact ⟨rfl, dropR_len (Nat.le_refl _)⟩
  | non => exact ⟨rfl, dropR_len (Nat.le_refl _)⟩
  | bl b => exact ⟨rfl, dropR_len (Nat.le_refl _)⟩
  | str b => exact ⟨rfl, dropR_len (Nat.le_refl _)⟩
  | tup b => exact ⟨rfl, dropR_len (Nat.le_refl _)⟩
  | _ => exact hd.elim
def mulD (ts : List Int) (b : Int) : D → Bool
  | .tup es => (match asInts es with
    | some r => mulB ts r b
    | none => false)
  | _ => false
theorem mulD_row {ts r : List Int} {b : Int} : mulD ts b (rowD r) = mulB ts r b := by
  unfold mulD
  simp only [asInts_int]
def lRow (n : Nat) : D → Bool
  | .tup es => decide (es.length = n) && es.all isW
  | _ => false
theorem e_lrow {kb n : Nat} {y : D} (h : y = .non ∨ RowV kb y) : (CC (k + 2)).fn 62 [y, .int (n : Nat)] S = some (.ok (.bl (lRow n y)) S) := by
  refine fn_eq (PM_fnq rfl rfl rfl ?_)
  unfold b__law_is_row
  change PZ _ [some y, some (.int (n : Nat)), none] _ _
  have big := sizeLine_big
  rw [PZ_ret, PM_eAnd, PM_eOp, PM_slot (i := 0) (d := y) rfl, PM_eC]
  rcases h with rfl | ⟨es, rfl, h1, h2⟩
  · rw [isi_tup (d := .non) trivial, PM_tbl]
    exact ⟨rfl, dropR_len (Nat.le_refl _)⟩
  · have e0 : lRow n (.tup es) = (decide (es.length = n) && es.all isW) := rfl
    rw [isi_tup (d := .tup es) trivial, PM_tbl, e0]
    simp only [if_true]
    rw [PM_eAnd, PM_eT, PM_tCmp, PM_eUn, PM_slot (i := 0) (d := .tup es) rfl, PM_lenT, PM_slot (i := 1) (d := .int (n : Nat)) rfl, own_int, PM_eqi, PM_tbl]
    by_cases hl : (es.length : Int) = (n : Int)
    · have hl2 : es.length = n := by omega
      rw [decide_eq_true hl, decide_eq_true hl2, Bool.true_and]
      simp only [if_true]
      rw [PM_eT, PM_tCmp]
      refine PM_fltD (fun d => !isW d) (it_tup (slot_eq (d := .tup es) rfl)) (by omega) (fun _ => trivial) (fun d hd => ⟨_, rfl, fun acc => ⟨?_, ?_⟩⟩) ?_
      · change PM (tNot (tV (eCall (CC (k + 1)) 58 1 (aCons (eSlot 2) aNil))) [some (.tup es), some (.int (n : Nat)), some d]) _ _
        rw [PM_tNot, PM_tV, PM_eCall, PM_aCons, PM_slot (i := 2) (d := d) rfl, PM_aNil]
        refine ⟨rfl, ?_⟩
        rw [PM_of (e_lwhole (k := k) (h2 d hd).pl), PM_tbl]
        exact ⟨rfl, rfl⟩
      · exact slot_eq rfl
      · obtain ⟨ps, hps⟩ := toPs_env (es := es.filter fun d => !isW d) (kb := kb) fun e he => h2 e (List.mem_filter.mp he).1
        rw [PM_eLst, PM_aNil]
        refine ⟨Nat.zero_le _, ?_⟩
        have g1 : ((S ++ [Cell.lst (es.filter fun d => !isW d)]) ++ [Cell.lst []])[S.length]? = some (.lst (es.filter fun d => !isW d)) := get_ap get_last
        rw [PM_ownL g1, PM_eqNil g1 get_last hps, filter_empty, FQ_rt, List.append_assoc]
        exact ⟨rfl, drop_pl (by trivial)⟩
    · have hl2 : ¬ es.length = n := by omega
      rw [decide_eq_false hl, decide_eq_false hl2, Bool.false_and]
      exact ⟨rfl, dropR_len (Nat.le_refl _)⟩
theorem pickI {P : D → Prop} {r : Nat} {xs : List D} {e : Ev} (hp : PenAt 0 1 S) (he : PM (e ρ) S fun d S' => d = .ref r ∧ S' = S) (hr : S[r]? = some (.lst xs)) (hP : ∀ x ∈ xs, P x) (h1 : 1 ≤ xs.length) (h2 : xs.length < 1000) {i : Nat} (hi : ρ[i]? = some (some (.ref 0))) :
    PM (eCall (CC (k + 2)) 55 2 (aCons (eSlot i) (aCons e aNil)) ρ) S fun d S' => P d ∧ Pn S S' := by
  rw [PM_eCall, PM_aCons, PM_slot hi, PM_aCons]
  refine he.imp ?_
  rintro d S1 ⟨rfl, rfl⟩
  rw [PM_aNil]
  have hr0 : r ≠ 0 := fun h => by
    subst h
    obtain ⟨_, _, _, _, _, _, h1, _⟩ := hp
    rw [h1] at hr; cases hr
  refine ⟨rfl, (e_pick (k := k) hp hr hr0 h1 (by omega)).imp ?_⟩
  rintro d S2 ⟨h, hd⟩
  exact ⟨hP d h, Pn.drawn hd⟩
theorem small.up {kb kb2 : Nat} {xs : List Int} (h : small kb xs) (hk : kb ≤ kb2) : small kb2 xs := fun x hx => Nat.lt_of_lt_of_le (h x hx) (p2m hk)
theorem SeqD.upL {d : D} {ds : List D} (h : SeqD S d ds) (l : ∀ (r : Nat) (xs : List D), S[r]? = some (.lst xs) → S'[r]? = some (.lst xs)) : SeqD S' d ds := by
  rcases h with rfl | ⟨r, rfl, h⟩
  · exact .inl rfl
  · exact .inr ⟨r, rfl, l r _ h⟩
theorem Fz.upL {nn : Nat} {d v : D} (h : Fz S nn d v) (l : ∀ (r : Nat) (xs : List D), S[r]? = some (.lst xs) → S'[r]? = some (.lst xs)) : Fz S' nn d v := by
  induction h with
  | sc h => exact .sc h
  | seq hd hl hz hall ih => exact .seq (hd.upL l) hl hz ih
theorem Pn.lst {r : Nat} {xs : List D} (h : Pn S S') (hp : PenAt 0 1 S) (e : S[r]? = some (.lst xs)) : S'[r]? = some (.lst xs) := by
  refine h.get e fun h0 => ?_
  subst h0
  obtain ⟨_, _, _, _, _, _, h1, _⟩ := hp
  rw [h1] at e; cases e
/-- a value that as_tuples makes such a one of, and what lies behind m does not matter for that -/
def SomeP (P : D → Prop) (m : Nat) (S : Store) (d : D) : Prop := ∃ v, P v ∧ ∀ S' : Store, (∀ (r : Nat) (xs : List D), r < m → S[r]? = some (.lst xs) → S'[r]? = some (.lst xs)) → Fz S' 3 d v
theorem SomeP.fz {P : D → Prop} {m : Nat} {d : D} (h : SomeP P m S d) : ∃ v, P v ∧ Fz S 3 d v := let ⟨v, h1, h2⟩ := h; ⟨v, h1, h2 S fun _ _ _ e => e⟩
theorem SomeP.mono {P : D → Prop} {m m2 : Nat} {d : D} (h : SomeP P m S d) (hm : m ≤ m2) : SomeP P m2 S d := let ⟨v, h1, h2⟩ := h; ⟨v, h1, fun S' h => h2 S' fun r xs hr e => h r xs (by omega) e⟩
theorem SomeP.pn {P : D → Prop} {m : Nat} {d : D} (h : SomeP P m S d) (hp : PenAt 0 1 S) (p : Pn S S') : SomeP P m S' d := let ⟨v, h1, h2⟩ := h; ⟨v, h1, fun S2 h => h2 S2 fun r xs hr e => h r xs hr (p.lst hp e)⟩
theorem SomeP.set {P : D → Prop} {m r : Nat} {d : D} {c : Cell} (h : SomeP P m S d) (hr : m ≤ r) : SomeP P m (S.set r c) d := let ⟨v, h1, h2⟩ := h; ⟨v, h1, fun S2 h => h2 S2 fun q xs hq e => h q xs hq (by rw [List.getElem?_set_ne (by omega)]; exact e)⟩
theorem EnV.fz {kb : Nat} {e : D} (h : EnV kb e) (n : Nat) : Fz S n e e := by rcases h with ⟨b, rfl⟩ | ⟨i, rfl, _⟩ <;> exact .sc trivial
theorem same_at {ys : List D} {i : Nat} {x v : D} (h1 : ys[i]? = some x) (h2 : ys[i]? = some v) : x = v := by rw [h1] at h2; cases h2; rfl
theorem RowV.fz {kb : Nat} {y : D} (h : RowV kb y) : Fz S 1 y y := by
  obtain ⟨es, rfl, h1, h2⟩ := h
  exact .seq (.inl rfl) rfl (by omega) fun i x v e1 e2 => by
    have := same_at e1 e2; subst this
    exact (h2 x (List.mem_of_getElem? e1)).fz 0
theorem TabV.fz {kb : Nat} {t : D} (h : TabV kb t) : Fz S 3 t t := by
  rcases h with rfl | ⟨ts, rfl, h1, h2⟩
  · exact .sc trivial
  · exact .seq (.inl rfl) rfl (by omega) fun i x v e1 e2 => by
      have := same_at e1 e2; subst this
      exact ((h2 x (List.mem_of_getElem? e1)).fz).lift 2 (by omega)
theorem RowV.row {kb : Nat} {xs : List Int} (h : small kb xs) (hl : xs.length < 1000) : RowV kb (rowD xs) := ⟨_, rfl, by rw [List.length_map]; exact hl, fun e he => by
  obtain ⟨x, hx, rfl⟩ := List.mem_map.mp he
  exact .inr ⟨x, rfl, h x hx⟩⟩
theorem cut_mem {xs : List D} {lo hi : Option Int} {y : D} (h : y ∈ cutD xs lo hi) : y ∈ xs := List.mem_of_mem_drop (List.mem_of_mem_take h)
theorem cut_len {xs : List D} {lo hi : Option Int} : (cutD xs lo hi).length ≤ xs.length := by
  unfold cutD
  rw [List.length_take, List.length_drop]; omega
theorem PM_cutT {xs : List D} {o p : Option Int} : PM (oCut (.tup xs) o p) S Q ↔ Q (.tup (cutD xs o p)) S := PM_of rfl
theorem EnV.up {kb kb2 : Nat} {e : D} (h : EnV kb e) (hk : kb ≤ kb2) : EnV kb2 e := by
  rcases h with ⟨b, rfl⟩ | ⟨i, rfl, hi⟩
  · exact .inl ⟨b, rfl⟩
  · exact .inr ⟨i, rfl, Nat.lt_of_lt_of_le hi (p2m hk)⟩
/-- a row, or None -/
def RV (kb : Nat) (t : D) : Prop := t = .non ∨ RowV kb t
theorem RV.pl {kb : Nat} {t : D} (h : RV kb t) : PlT t := by
  rcases h with rfl | h
  · exact ⟨trivial, fun xs e => by cases e⟩
  · exact h.plT
theorem RV.fz {kb : Nat} {t : D} (h : RV kb t) : Fz S 3 t t := by
  rcases h with rfl | h
  · exact .sc trivial
  · exact h.fz.lift 3 (by omega)
theorem SomeP.self {P : D → Prop} {m : Nat} {t : D} (h : P t) (hf : ∀ S, Fz S 3 t t) : SomeP P m S t := ⟨t, h, fun S' _ => hf S'⟩
theorem RV.sv {kb m : Nat} {t : D} (h : RV kb t) : SomeP (RV kb) m S t := .self h fun _ => h.fz
theorem RowV.lsv {kb r m : Nat} {es : List D} (h : RowV kb (.tup es)) (hr : S[r]? = some (.lst es)) (hm : r < m) : SomeP (RV kb) m S (.ref r) := by
  refine ⟨.tup es, .inr h, fun S' hS => ?_⟩
  have hr := hS r es hm hr
  obtain ⟨es2, e, h1, h2⟩ := h
  cases e
  exact .seq (.inr ⟨r, rfl, hr⟩) rfl (by omega) fun i x v e1 e2 => by
    have := same_at e1 e2; subst this
    exact (h2 x (List.mem_of_getElem? e1)).fz 2
/-- a list of such values -/
def SLP (P : D → Prop) (S : Store) (r n : Nat) : Prop := ∃ xs, S[r]? = some (.lst xs) ∧ xs.length = n ∧ ∀ x ∈ xs, SomeP P r S x
theorem SLP.pn {P : D → Prop} {r n : Nat} (h : SLP P S r n) (hp : PenAt 0 1 S) (p : Pn S S') : SLP P S' r n := let ⟨xs, h1, h2, h3⟩ := h; ⟨xs, p.lst hp h1, h2, fun x hx => (h3 x hx).pn hp p⟩
/-- [C(pick(some)) for step in range(7)] -/
theorem pick7 {P V : D → Prop} {r n c q st : Nat} {ρ : En} (hp : PenAt 0 1 S) (hs : SLP P S r n) (h1 : 1 ≤ n) (h2 : n < 1000) (hq : ∀ d, ((ρ.set st none).set st (some d))[1]? = some (some (.ref 0))) (hq2 : ∀ d, ((ρ.set st none).set st (some d))[q]? = some (some (.ref r)))
    (hnew : ∀ (S : Store) (d v : D) (Q : D → Store → Prop), Fz S 3 d v → P v → (∀ w, V w → Q w S) → PM ((CC (k + 3)).new c [d]) S Q) :
    PM (eComp [st] (iRng1 (eC (.int 7))) (.one st) tTrue (eNew (CC (k + 3)) c 1 (aCons (eCall (CC (k + 3)) 55 2 (aCons (eSlot 1) (aCons (eSlot q) aNil))) aNil)) ρ) S fun d S' => d = .ref S.length ∧ Pn S S' ∧ ∃ ys, S'[S.length]? = some (.lst ys) ∧ ys.length = 7 ∧ ∀ y ∈ ys, V y := by
  have big := sizeLine_big
  refine (pm_drawc (fun _ y => V y) hp (it_rng (n := 7) (by rw [PM_eC]; exact ⟨rfl, rfl⟩) (by omega)) (by rw [rng_len]; omega) (fun _ _ => trivial) fun j d S1 hj p1 => ⟨_, rfl, ?_⟩).imp ?_
  · obtain ⟨xs, g1, g2, g3⟩ := hs.pn hp p1
    rw [PM_eNew, PM_aCons]
    refine (pickI (k := k + 1) (i := 1) (P := fun x => SomeP P r S1 x) p1.1 (slot_eq (hq2 d)) g1 g3 (by omega) (by omega) (hq d)).imp ?_
    rintro y S2 ⟨hy, p2⟩
    rw [PM_aNil]
    refine ⟨rfl, ?_⟩
    obtain ⟨v, hv, fz⟩ := (hy.pn p1.1 p2).fz
    exact hnew S2 y v _ fz hv fun w hw => ⟨hw, p2⟩
  · rintro d S1 ⟨rfl, p1, ys, g1, g2, g3⟩
    rw [rng_len] at g2
    exact ⟨rfl, p1, ys, g1, g2, of_ix g3⟩
/-- pick(seven + [three]) -/
theorem pickV {V : D → Prop} {d1 d2 d3 : D} {e a b c : Ev} {ρ : En} (hp : PenAt 0 1 S) (h1 : ρ[1]? = some (some (.ref 0))) (he : PM (e ρ) S fun d S' => d = .ref S.length ∧ Pn S S' ∧ ∃ ys, S'[S.length]? = some (.lst ys) ∧ ys.length ≤ 100 ∧ ∀ y ∈ ys, V y)
    (ha : ∀ S Q, PM (a ρ) S Q ↔ Q d1 S) (hb : ∀ S Q, PM (b ρ) S Q ↔ Q d2 S) (hc : ∀ S Q, PM (c ρ) S Q ↔ Q d3 S) (v1 : V d1) (v2 : V d2) (v3 : V d3) :
    PM (eCall (CC (k + 2)) 55 2 (aCons (eSlot 1) (aCons (eOp oAdd e (eLst (aCons a (aCons b (aCons c aNil))))) aNil)) ρ) S fun d S' => Pn S S' ∧ V d := by
  have big := sizeLine_big
  rw [PM_eCall, PM_aCons, PM_slot h1, PM_aCons, PM_eOp]
  refine he.imp ?_
  rintro d S1 ⟨rfl, p1, ys, g1, g2, g3⟩
  rw [PM_eLst, PM_aCons, ha, PM_aCons, hb, PM_aCons, hc, PM_aNil]
  refine ⟨by simp; omega, ?_⟩
  rw [PM_addL (get_ap g1) get_last]
  refine ⟨by simp; omega, ?_⟩
  rw [PM_aNil]
  have pp := (p1.app [Cell.lst [d1, d2, d3]]).app [Cell.lst (ys ++ [d1, d2, d3])]
  have hne : ∀ X : Store, PenAt 0 1 X → X.length ≠ 0 := fun X h => by have := h.lt; omega
  refine ⟨rfl, (e_pick (k := k) pp.1 get_last (hne _ (p1.app _).1) (by simp) (by simp; omega)).imp ?_⟩
  rintro d S2 ⟨hd, p2⟩
  refine ⟨pp.trans (Pn.drawn p2), ?_⟩
  rcases List.mem_append.mp hd with hd | hd
  · exact g3 d hd
  · simp only [List.mem_cons, List.not_mem_nil, or_false] at hd
    rcases hd with rfl | rfl | rfl
    · exact v1
    · exact v2
    · exact v3
theorem bb_eq (b : Bool) : (b == b) = true := by cases b <;> rfl
/-- a judge and the law's own say the same -/
theorem x_ifA {C : Calls} {f m n : Nat} {ds : List D} {av : Av} {b : Bool} {K : En → Store → Prop} {U : RS → Prop} (hC : C = CC (k + 1)) (ha : ∀ Q, PM (av ρ) S Q ↔ Q ds S) (hn : ds.length = n) (h4 : ρ[m]? = some (some (.bl b))) (hf : C.fn f ds S = some (.ok (.bl b) S)) (hK : K ρ S) :
    PZ (sIf (tNot (tV (eCall C 57 2 (aCons (eCall C f n av) (aCons (eSlot m) aNil))))) (sRet (eC (.bl false))) sNx) ρ S (SQ K U) := by
  rw [PZ_if, PM_tNot, PM_tV, PM_eCall, PM_aCons, PM_eCall, ha]
  refine ⟨hn, ?_⟩
  rw [PM_of hf, PM_aCons, PM_slot h4, PM_aNil]
  refine ⟨rfl, ?_⟩
  subst hC
  rw [PM_of (e_is (k := k)), PM_tbl, bb_eq]
  simp only [Bool.not_true, Bool.false_eq_true, if_false]
  rw [PZ_nx]
  exact hK
/-- == and != of frozen classes of one field -/
theorem eq_one {c i : Nat} {f : Str} {b : Calls → Sv} {fd : Fd} {t u : D} {p q : PyData} (hc : c < Γ.cls.length) (hf : Γ.fns[i]? = some fd) (hb : bs[i]? = some b) (hl : fd.ps.length = 2) (hN : fd.N.length = 2) (hfl : Γ.fields c = [f])
    (hbody : b (CC k) = sRet (eAnd (eOp (fIsi Γ) (eSlot 1) (eC (.cls c))) (eT (tCmp (cOwn Γ (CC k) "__eq__" cEq) (eUn (oFld Γ f) (eSlot 0)) (eUn (oFld Γ f) (eSlot 1))))))
    (hs : clsD S t = none) (h1 : toP t = some p) (h2 : toP u = some q) (g1 : toPS S t = toP t) (g2 : toPS S u = toP u) (hd : p.depth ≤ 200) : (CC (k + 1)).fn i [.obj c [t], .obj c [u]] S = some (.ok (.bl (PyData.eqv p q)) S) := by
  refine fn_eq (PM_fnq hf hb (by rw [hl]; rfl) ?_)
  rw [hN, show b (callsAt Γ bs k) = _ from hbody]
  change PZ _ [some (.obj c [t]), some (.obj c [u])] _ _
  have e : (c == c) = true := by simp
  have fl : ∀ x : D, ((Γ.fields c).zip [x]).lookup f = some x := fun x => by rw [hfl]; simp [List.lookup]
  have own : ∀ (y : D) (B : Bool → Store → Prop), PM (cOwn Γ (CC k) "__eq__" cEq t y) S B ↔ PM (cEq t y) S B := fun y B => by
    have : cOwn Γ (CC k) "__eq__" cEq t y S = cEq t y S := by unfold cOwn; rw [hs]
    unfold PM; rw [this]
  rw [PZ_ret, PM_eAnd, PM_eOp, PM_slot (i := 1) (d := .obj c [u]) rfl, PM_eC, PM_isiO hc hc, PM_tbl, e]
  simp only [if_true]
  rw [PM_eT, PM_tCmp, PM_eUn, PM_slot (i := 0) (d := .obj c [t]) rfl, PM_fldO (fl t), PM_eUn, PM_slot (i := 1) (d := .obj c [u]) rfl, PM_fldO (fl u), own, PM_eqP h1 h2 g1 g2 hd, FQ_rt]
  exact ⟨rfl, dropR_len (Nat.le_refl _)⟩
theorem eq_oneX {c c2 i : Nat} {f : Str} {b : Calls → Sv} {fd : Fd} {xs ys : List D} (hc : c < Γ.cls.length) (hc2 : c2 < Γ.cls.length) (hne : (c2 == c) = false) (hf : Γ.fns[i]? = some fd) (hb : bs[i]? = some b) (hl : fd.ps.length = 2) (hN : fd.N.length = 2)
    (hbody : ∃ e, b (CC k) = sRet (eAnd (eOp (fIsi Γ) (eSlot 1) (eC (.cls c))) e)) : (CC (k + 1)).fn i [.obj c xs, .obj c2 ys] S = some (.ok (.bl false) S) := by
  obtain ⟨e, hbody⟩ := hbody
  refine fn_eq (PM_fnq hf hb (by rw [hl]; rfl) ?_)
  rw [hN, show b (callsAt Γ bs k) = _ from hbody]
  change PZ _ [some (.obj c xs), some (.obj c2 ys)] _ _
  rw [PZ_ret, PM_eAnd, PM_eOp, PM_slot (i := 1) (d := .obj c2 ys) rfl, PM_eC, PM_isiO hc2 hc, PM_tbl, hne]
  exact ⟨rfl, dropR_len (Nat.le_refl _)⟩
theorem eq_oneT {c i : Nat} {b : Calls → Sv} {fd : Fd} {xs ys : List D} (hc : c < Γ.cls.length) (hf : Γ.fns[i]? = some fd) (hb : bs[i]? = some b) (hl : fd.ps.length = 2) (hN : fd.N.length = 2)
    (hbody : ∃ e, b (CC k) = sRet (eAnd (eOp (fIsi Γ) (eSlot 1) (eC (.cls c))) e)) : (CC (k + 1)).fn i [.obj c xs, .tup ys] S = some (.ok (.bl false) S) := by
  obtain ⟨e, hbody⟩ := hbody
  refine fn_eq (PM_fnq hf hb (by rw [hl]; rfl) ?_)
  rw [hN, show b (callsAt Γ bs k) = _ from hbody]
  change PZ _ [some (.obj c xs), some (.tup ys)] _ _
  rw [PZ_ret, PM_eAnd, PM_eOp, PM_slot (i := 1) (d := .tup ys) rfl, PM_eC, PM_isiC rfl (by decide) hc, PM_tbl]
  exact ⟨rfl, dropR_len (Nat.le_refl _)⟩
theorem ne_any {c i j : Nat} {b : Calls → Sv} {fd : Fd} {xs : List D} {y : D} {v : Bool} (hf : Γ.fns[i]? = some fd) (hb : bs[i]? = some b) (hl : fd.ps.length = 2) (hN : fd.N.length = 2) (hm : Γ.meth c "__eq__" = some (j, 2))
    (hbody : b (CC (k + 1)) = sRet (eT (tNot (tV (eT (tCmp (cOwn Γ (CC (k + 1)) "__eq__" cEq) (eSlot 0) (eSlot 1))))))) (hy : okTy Γ S y = true) (h : (CC (k + 1)).fn j [.obj c xs, y] S = some (.ok (.bl v) S)) : (CC (k + 2)).fn i [.obj c xs, y] S = some (.ok (.bl (!v)) S) := by
  refine fn_eq (PM_fnq hf hb (by rw [hl]; rfl) ?_)
  rw [hN, show b (callsAt Γ bs (k + 1)) = _ from hbody]
  change PZ _ [some (.obj c xs), some y] _ _
  rw [PZ_ret, PM_eT, PM_tNot, PM_tV, PM_eT, PM_tCmp, PM_slot (i := 0) (d := .obj c xs) rfl, PM_slot (i := 1) (d := y) rfl, PM_ownO (b := v) hm hy h, PM_tbl, FQ_rt]
  exact ⟨rfl, dropR_len (Nat.le_refl _)⟩
theorem isB1 : (D.bl true).isBl true = true := rfl
theorem isB2 : (D.bl false).isBl false = true := rfl
end


section
variable {k : Nat} {S S' S2 : Store} {ρ : En} {Q : D → Store → Prop} {B : Bool → Store → Prop}
theorem cl_lt : 0 < Γ.cls.length ∧ 2 < Γ.cls.length ∧ 3 < Γ.cls.length ∧ 4 < Γ.cls.length ∧ 5 < Γ.cls.length := by decide
theorem n_madeby {d v : D} {nn : Nat} (h : Fz S nn d v) (hn : nn < 999999) (hQ : Q (.obj 4 [v]) S) : PM ((CC (k + 3)).new 4 [d]) S Q := n_one rfl rfl rfl rfl rfl rfl (by decide) h hn hQ
theorem n_notmadeby {d v : D} {nn : Nat} (h : Fz S nn d v) (hn : nn < 999999) (hQ : Q (.obj 5 [v]) S) : PM ((CC (k + 3)).new 5 [d]) S Q := n_one rfl rfl rfl rfl rfl rfl (by decide) h hn hQ
/-! ### rows and a number -/
theorem below_tab {n : Nat} : ∀ R : List (List Int), belowDs n (R.map rowD)
  | [] => trivial
  | r :: R => ⟨below_ints _, below_tab R⟩
theorem drop_tab {R : List (List Int)} {X : Store} : dropR S (.tup (R.map rowD)) (S ++ X) = S := drop_pl (d := tabD R) (below_tab R)

def unitR (w at_ : Nat) (by' : Int) : List Int := (List.range w).map fun j : Nat => if (at_ : Int) = (j : Int) then by' else 0
theorem unitR_len {w a : Nat} {b : Int} : (unitR w a b).length = w := by unfold unitR; simp
theorem unitR_abs {w a b : Nat} : Bdd b (unitR w a (b : Nat)) := fun x hx => by
  unfold unitR at hx
  obtain ⟨j, _, rfl⟩ := List.mem_map.mp hx
  split <;> omega
theorem m_unit {w a : Nat} {b : Int} (hw : w < 1000) : (CC (k + 1)).fn 43 [.int (w : Nat), .int (a : Nat), .int b] S = some (.ok (rowD (unitR w a b)) S) := by
  refine fn_eq (PM_fnq rfl rfl rfl ?_)
  unfold b_unit_row
  change PZ _ [some (.int (w : Nat)), some (.int (a : Nat)), some (.int b), none] _ _
  have big := sizeLine_big
  rw [PZ_ret, PM_eDrop, PM_eUn]
  refine PM_mapD (fun d => match d with
    | .int j => .int (if (a : Int) = j then b else 0)
    | d => d) (it_rng (n := w) (slot_eq rfl) hw) (by rw [rng_len]; omega) (fun _ => trivial) (fun d hd => ⟨_, rfl, fun acc => ?_⟩) ?_
  · obtain ⟨j, hj⟩ := List.getElem_of_mem hd
    obtain ⟨rfl, _⟩ := rng_at (List.getElem?_eq_some_iff.mpr hj)
    change PM (eIf (tCmp (cOwn Γ (CC k) "__eq__" cEq) (eSlot 1) (eSlot 3)) (eSlot 2) (eC (.int 0)) [some (.int (w : Nat)), some (.int (a : Nat)), some (.int b), some (.int (0 + (j : Int)))]) _ _
    rw [PM_eIf, PM_tCmp, PM_slot (i := 1) (d := .int (a : Nat)) rfl, PM_slot (i := 3) (d := .int (0 + (j : Int))) rfl, own_int, PM_eqi]
    by_cases h : (a : Int) = 0 + (j : Int)
    · rw [decide_eq_true h]
      simp only [if_true]
      rw [PM_slot (i := 2) (d := .int b) rfl]
      exact ⟨by simp only [h, if_true], rfl⟩
    · rw [decide_eq_false h]
      simp only [Bool.false_eq_true, if_false]
      rw [PM_eC]
      exact ⟨by simp only [h, if_false], rfl⟩
  · rw [PM_tupL get_last]
    have e : ((rngL 0 (w : Int)).map fun d => match d with
      | .int j => D.int (if (a : Int) = j then b else 0)
      | d => d) = (unitR w a b).map D.int := by
      unfold rngL unitR
      rw [List.map_map, List.map_map]
      have : ((w : Int) - 0).toNat = w := by omega
      rw [this]
      refine List.map_congr_left fun j _ => ?_
      simp
    rw [e, FQ_rt, drop_ints]
    exact ⟨rfl, dropR_len (Nat.le_refl _)⟩
theorem m_astable {R : List (List Int)} (h : R.length < 1000) : (CC (k + 1)).fn 36 [tabD R] S = some (.ok (tabD R) S) := by
  refine fn_eq (PM_fnq rfl rfl rfl ?_)
  unfold b_as_table
  change PZ _ [some (tabD R), none] _ _
  have big := sizeLine_big
  rw [PZ_ret, PM_eDrop, PM_eUn]
  refine PM_mapD (fun d => d) (it_tup (slot_eq (d := tabD R) rfl)) (by rw [List.length_map]; omega) (fun _ => trivial) (fun d hd => ⟨_, rfl, fun acc => ?_⟩) ?_
  · obtain ⟨r, _, rfl⟩ := List.mem_map.mp hd
    change PM (eUn fTup (eSlot 1) [some (tabD R), some (rowD r)]) _ _
    rw [PM_eUn, PM_slot (i := 1) (d := rowD r) rfl, PM_tupT]
    exact ⟨rfl, rfl⟩
  · rw [PM_tupL get_last, List.map_id', FQ_rt]
    rw [drop_tab]
    exact ⟨rfl, dropR_len (Nat.le_refl _)⟩
def byR (R : List (List Int)) (w : Nat) (b : Int) : List (List Int) := R ++ (List.range w).map fun a => unitR w a b
theorem byR_len {R : List (List Int)} {w : Nat} {b : Int} : (byR R w b).length = R.length + w := by unfold byR; simp
theorem byR_wd {R : List (List Int)} {w : Nat} {b : Int} (h : Wd R w) : Wd (byR R w b) w := fun r hr => by
  rcases List.mem_append.mp hr with hr | hr
  · exact h r hr
  · obtain ⟨a, _, rfl⟩ := List.mem_map.mp hr
    exact unitR_len
theorem byR_bd {R : List (List Int)} {w b c : Nat} (h : ∀ r ∈ R, Bdd c r) (hb : b ≤ c) : ∀ r ∈ byR R w (b : Nat), Bdd c r := fun r hr => by
  rcases List.mem_append.mp hr with hr | hr
  · exact h r hr
  · obtain ⟨a, _, rfl⟩ := List.mem_map.mp hr
    exact fun x hx => Nat.le_trans (unitR_abs x hx) hb
def byD (R : List (List Int)) (w : Nat) (b : Int) : D := .obj 6 [tabD (byR R w b), .int (w : Nat)]
theorem by_h {R : List (List Int)} {w : Nat} {b : Int} : Holds (byD R w b) w (byR R w b) := ⟨fun _ _ => PM_fldO rfl, fun _ _ => PM_fldO rfl⟩
theorem n_byrows {R : List (List Int)} {w : Nat} {b : Int} (hR : R.length < 1000) (hw : w < 1000) : (CC (k + 3)).new 6 [tabD R, .int (w : Nat), .int b] S = some (.ok (byD R w b) S) := by
  refine fn_eq (PM_new (xs := [tabD (byR R w b), .int (w : Nat)]) rfl rfl rfl ?_ rfl ⟨below_tab _, trivial, trivial⟩ ⟨rfl, rfl⟩)
  refine PM_fnq rfl rfl rfl ?_
  unfold b_ByRows_init
  change PZ _ [some (.ref S.length), some (tabD R), some (.int (w : Nat)), some (.int b), none] _ _
  have big := sizeLine_big
  rw [PZ_seq, PZ_asg, PM_eOp, PM_eCall, PM_aCons, PM_slot (i := 1) (d := tabD R) rfl, PM_aNil]
  refine ⟨rfl, ?_⟩
  rw [PM_of (m_astable (k := k) hR), PM_eDrop, PM_eUn]
  refine PM_mapD (fun d => match d with
    | .int j => rowD (unitR w j.toNat b)
    | d => d) (it_rng (n := w) (slot_eq rfl) hw) (by rw [rng_len]; omega) (fun _ => trivial) (fun d hd => ⟨_, rfl, fun acc => ?_⟩) ?_
  · obtain ⟨j, hj⟩ := List.getElem_of_mem hd
    obtain ⟨rfl, _⟩ := rng_at (List.getElem?_eq_some_iff.mpr hj)
    have e0 : (0 : Int) + (j : Int) = (j : Int) := by omega
    rw [e0]
    change PM (eCall (CC (k + 1)) 43 3 (aCons (eSlot 2) (aCons (eSlot 4) (aCons (eSlot 3) aNil))) [some (.ref S.length), some (tabD R), some (.int (w : Nat)), some (.int b), some (.int (j : Int))]) _ _
    rw [PM_eCall, PM_aCons, PM_slot (i := 2) (d := .int (w : Nat)) rfl, PM_aCons, PM_slot (i := 4) (d := .int (j : Int)) rfl, PM_aCons, PM_slot (i := 3) (d := .int b) rfl, PM_aNil]
    refine ⟨rfl, ?_⟩
    rw [PM_of (m_unit (k := k) (a := j) hw)]
    exact ⟨rfl, rfl⟩
  · rw [PM_tupL get_last]
    have e : ((rngL 0 (w : Int)).map fun d => match d with
      | .int j => rowD (unitR w j.toNat b)
      | d => d) = ((List.range w).map fun a => unitR w a b).map rowD := by
      unfold rngL
      rw [List.map_map, List.map_map]
      have : ((w : Int) - 0).toNat = w := by omega
      rw [this]
      refine List.map_congr_left fun j _ => ?_
      simp
    rw [e, drop_tab, PM_addT]
    refine ⟨by simp; omega, ?_⟩
    have e2 : R.map rowD ++ ((List.range w).map fun a => unitR w a b).map rowD = (byR R w b).map rowD := by unfold byR; rw [List.map_append]
    have f0 : ("rows" : Str) ∈ Γ.fields 6 := by decide
    have f1 : ("width" : Str) ∈ Γ.fields 6 := by decide
    rw [e2, PZ_fld, PM_slot (i := 0) (d := .ref S.length) rfl, PM_putF get_last f0 (by simp), SQ_nx, set_last, PZ_asg, PM_slot (i := 2) (d := .int (w : Nat)) rfl, PZ_fld, PM_slot (i := 0) (d := .ref S.length) rfl, PM_putF get_last f1 (by exact (show 1 < 1000 by decide)), set_last, FQ_nx]
    exact ⟨rfl, dropR_len (by simp)⟩
/-! ### what is told -/
def LeftN (n b : Nat) (xs : List Int) : Prop := xs.length = n ∧ ∀ x ∈ xs, 0 ≤ x ∧ x < (b : Int)
def ToldB (n w b : Nat) (d : D) : Prop := (∃ ns, d = .obj 4 [rowD ns] ∧ LeftN n b ns) ∨ ∃ ts, d = .obj 5 [rowD ts] ∧ LeftN w b ts
theorem bxT_k76 {n w : Nat} (hn : n ≤ 3) (hw : w ≤ 3) : bxT (n + w) w 6 10 20000 4000 500 := by
  have h : ∀ N, N ≤ 6 → ∀ w, w ≤ 3 → bxT N w 6 10 20000 4000 500 := by decide +kernel
  exact h _ (by omega) w hw
theorem bot_k76 {n w : Nat} (hn : n ≤ 3) (hw : w ≤ 3) : (∀ l, l ≤ n + w → l ≤ w → 500 * (l + 1) < 4000) ∧ ∀ l, l ≤ n + w → l < w → 1 + (10 + (bx (n + w) 6 l + 1) * l) + 500 * l < 4000 := by
  have h : ∀ N, N ≤ 6 → ∀ w, w ≤ 3 → (∀ l, l ≤ N → l ≤ w → 500 * (l + 1) < 4000) ∧ ∀ l, l ≤ N → l < w → 1 + (10 + (bx N 6 l + 1) * l) + 500 * l < 4000 := by decide +kernel
  exact h _ (by omega) w hw
theorem fmod_rng {x : Int} {b : Nat} (hb : 1 ≤ b) : 0 ≤ x.fmod (b : Int) ∧ x.fmod (b : Int) < (b : Int) := ⟨Int.fmod_nonneg_of_pos _ (by omega), Int.fmod_lt_of_pos _ (by omega)⟩
theorem m_monb {w b : Nat} {R : List (List Int)} {row : List Int} (hR : RowsOk 3 w 64 R) (hw : w ≤ 3) (hb1 : 2 ≤ b) (hb : b ≤ 60) (hr : row.length = w) (hr2 : Bdd 1000 row) :
    PM ((CC (k + 7)).fn 46 [tabD R, .int (w : Nat), rowD row, .int (b : Nat)]) S fun d S' => S' = S ∧ ToldB R.length w b d := by
  refine PM_fnq rfl rfl rfl ?_
  unfold b_made_or_not_by
  change PZ _ [some (tabD R), some (.int (w : Nat)), some (rowD row), some (.int (b : Nat)), none, none, none] _ _
  have big := sizeLine_big
  have hR1 := hR.1
  rw [PZ_seq, PZ_asg, PM_eCall, PM_aCons, PM_eNew, PM_aCons, PM_slot (i := 0) (d := tabD R) rfl, PM_aCons, PM_slot (i := 1) (d := .int (w : Nat)) rfl, PM_aCons, PM_slot (i := 3) (d := .int (b : Nat)) rfl, PM_aNil]
  refine ⟨rfl, ?_⟩
  rw [PM_of (n_byrows (k := k + 3) (b := (b : Nat)) (by omega) (by omega)), PM_aCons, PM_slot (i := 2) (d := rowD row) rfl, PM_aNil]
  have hbd : Bd (R.length + w) w 64 1024 20000 4000 (2 ^ 500) := ((bxT_k76 hR1 hw).bx (by omega) (by omega) (by omega) (by omega)).bd (b0 := 6) (by decide) (by decide) (by decide)
  obtain ⟨bo1, bo2⟩ := bot_k76 hR1 hw
  refine ⟨rfl, (m_made (k := k) by_h hbd (byR_wd hR.2.1) byR_len (Eb.of_mem fun r hr x hx => byR_bd hR.2.2 (by omega) r hr x hx) (P := fun n => n < 2 ^ 4000) (fun c l hl h => bot_lt (kb := 0) (b0 := 6) (cb := 10) (by decide) (by decide) hl bo1 bo2 h) hr (fun x hx => Nat.le_trans (hr2 x hx) (by omega))).imp ?_⟩
  rintro d S2 ⟨rfl, hd⟩
  rw [PZ_one, SQ_nx]
  change PZ _ [some (tabD R), some (.int (w : Nat)), some (rowD row), some (.int (b : Nat)), some d, none, none] _ _
  rw [PZ_seq, PZ_if, PM_tV, PM_eOp, PM_slot (i := 4) (d := d) rfl, PM_eC]
  rcases hd with ⟨ns, rfl, h1, h2⟩ | ⟨ts, bt, rfl, h1, h2, h3, h4, h5⟩
  · rw [PM_isiO cl_lt.2.1 cl_lt.2.1, PM_tbl]
    simp only [beq_self_eq_true, if_true]
    rw [PZ_ret, PM_eNew, PM_aCons, PM_eDrop, PM_eUn]
    have ht : (ns.map D.int).take R.length = (ns.take R.length).map D.int := by rw [List.map_take]
    refine PM_mapc (xs := ns.take R.length) (da := rowD (ns.take R.length)) (fun x => .int (x.fmod (b : Int))) ?_ seq_row (by rw [List.length_take]; omega) (fun x hx acc => ?_) ?_
    · rw [PM_cut, PM_eUn, PM_slot (i := 4) (d := .obj 2 [rowD ns]) rfl, PM_fldO (d := rowD ns) rfl, PM_pNone, PM_pSome (i := (R.length : Nat)) (by rw [PM_eUn, PM_slot (i := 0) (d := tabD R) rfl, PM_lenT, List.length_map]; exact ⟨rfl, rfl⟩)]
      refine (PM_of (a := .tup (cutD (ns.map D.int) none (some (R.length : Nat)))) (S' := S2) rfl).mpr ?_
      rw [cut_take, ht]
      exact ⟨rfl, rfl⟩
    · change PM (eOp oMod (eSlot 5) (eSlot 3) [some (tabD R), some (.int (w : Nat)), some (rowD row), some (.int (b : Nat)), some (.obj 2 [rowD ns]), some (.int x), none]) _ _
      rw [PM_eOp, PM_slot (i := 5) (d := .int x) rfl, PM_slot (i := 3) (d := .int (b : Nat)) rfl, PM_mod]
      exact ⟨by omega, rfl, rfl⟩
    · have e : (ns.take R.length).map (fun x => D.int (x.fmod (b : Int))) = ((ns.take R.length).map fun x => x.fmod (b : Int)).map D.int := by rw [List.map_map]; rfl
      rw [e, PM_tupL get_last, drop_ints, PM_aNil]
      refine ⟨rfl, ?_⟩
      have hl : ((ns.take R.length).map fun x => x.fmod (b : Int)).length = R.length := by rw [List.length_map, List.length_take, h1]; omega
      refine n_madeby (k := k + 3) (nn := 1) (Fz.ints (by omega)) (by omega) ?_
      rw [SQ_rt, FQ_rt]
      refine ⟨dropR_len (Nat.le_refl _), .inl ⟨_, rfl, hl, fun x hx => ?_⟩⟩
      obtain ⟨y, _, rfl⟩ := List.mem_map.mp hx
      exact fmod_rng (by omega)
  · have e0 : ((3 : Nat) == 2) = false := by decide
    rw [PM_isiO cl_lt.2.2.1 cl_lt.2.1, PM_tbl]
    simp only [e0, Bool.false_eq_true, if_false]
    rw [PZ_nx, SQ_nx, PZ_ret, PM_eNew, PM_aCons, PM_eDrop, PM_eUn]
    have dok : divOk bt := divOk_b (b := 4000) (by omega) (by omega) h5
    refine PM_mapc (xs := ts) (da := rowD ts) (fun x => .int (((x * (b : Int)).fdiv bt).fmod (b : Int))) ?_ seq_row (by omega) (fun x hx acc => ?_) ?_
    · rw [PM_eUn, PM_slot (i := 4) (d := .obj 3 [rowD ts, .int bt]) rfl, PM_fldO (d := rowD ts) rfl]
      exact ⟨rfl, rfl⟩
    · change PM (eOp oMod (eOp oFdiv (eOp oMul (eSlot 6) (eSlot 3)) (eUn (oFld Γ "bottom") (eSlot 4))) (eSlot 3) [some (tabD R), some (.int (w : Nat)), some (rowD row), some (.int (b : Nat)), some (.obj 3 [rowD ts, .int bt]), none, some (.int x)]) _ _
      rw [PM_eOp, PM_eOp, PM_eOp, PM_slot (i := 6) (d := .int x) rfl, PM_slot (i := 3) (d := .int (b : Nat)) rfl, PM_mul]
      refine ⟨mulOk_r (by omega) (by omega), ?_⟩
      rw [PM_eUn, PM_slot (i := 4) (d := .obj 3 [rowD ts, .int bt]) rfl, PM_fldO (d := .int bt) rfl, PM_fdiv]
      refine ⟨dok, ?_⟩
      rw [PM_slot (i := 3) (d := .int (b : Nat)) rfl, PM_mod]
      exact ⟨by omega, rfl, rfl⟩
    · have e : ts.map (fun x => D.int (((x * (b : Int)).fdiv bt).fmod (b : Int))) = (ts.map fun x => ((x * (b : Int)).fdiv bt).fmod (b : Int)).map D.int := by rw [List.map_map]; rfl
      rw [e, PM_tupL get_last, drop_ints, PM_aNil]
      refine ⟨rfl, ?_⟩
      refine n_notmadeby (k := k + 3) (nn := 1) (Fz.ints (by rw [List.length_map]; omega)) (by omega) ?_
      rw [FQ_rt]
      refine ⟨dropR_len (Nat.le_refl _), .inr ⟨_, rfl, by rw [List.length_map, h1], fun x hx => ?_⟩⟩
      obtain ⟨y, _, rfl⟩ := List.mem_map.mp hx
      exact fmod_rng (by omega)
/-! ### questions -/
theorem m_gridR {w : Nat} {row : List Int} (hr : row.length = w) (hw : w < 1000) : (CC (k + 2)).fn 37 [.tup [rowD row], .int 1, .int (w : Nat)] S = some (.ok (.bl true) S) := by
  refine fn_eq (PM_fnq rfl rfl rfl ?_)
  unfold b_is_grid
  change PZ _ [some (.tup [rowD row]), some (.int 1), some (.int (w : Nat)), none, none] _ _
  have big := sizeLine_big
  have e1 : (!decide ((([rowD row].length : Nat) : Int) = 1)) = false := by simp
  rw [PZ_seq, PZ_if, PM_tOr, PM_tNot, PM_tV, PM_eOp, PM_slot (i := 0) (d := .tup [rowD row]) rfl, PM_eC, isi_tup (d := .tup [rowD row]) trivial, PM_tbl]
  simp only [Bool.not_true, Bool.false_eq_true, if_false]
  rw [PM_tCmp, PM_eUn, PM_slot (i := 0) (d := .tup [rowD row]) rfl, PM_lenT, PM_slot (i := 1) (d := .int 1) rfl, own_int, PM_nei, e1, if_neg (by simp), PZ_nx, SQ_nx, PZ_seq, PZ_for, PM_iSeq, PM_slot (i := 0) (d := .tup [rowD row]) rfl, PM_seqT]
  refine PZ_go (fun j ρ S' => S' = S ∧ ∃ x y, ρ = [some (.tup [rowD row]), some (.int 1), some (.int (w : Nat)), x, y]) ⟨rfl, _, _, rfl⟩ ?_ ?_
  · rintro j d ρ S' hj ⟨rfl, x, y, rfl⟩
    have hd : d = rowD row := by
      rcases j with _ | j
      · cases hj; rfl
      · simp at hj
    subst hd
    refine ⟨trivial, _, rfl, ?_⟩
    change PZ _ [some (.tup [rowD row]), some (.int 1), some (.int (w : Nat)), some (rowD row), y] _ _
    rw [PZ_if, PM_tOr, PM_tNot, PM_tV, PM_eOp, PM_slot (i := 3) (d := rowD row) rfl, PM_eC, isi_tup (d := rowD row) trivial, PM_tbl]
    simp only [Bool.not_true, Bool.false_eq_true, if_false]
    rw [PM_tOr, PM_tCmp, PM_eUn, PM_slot (i := 3) (d := rowD row) rfl, PM_lenT, PM_slot (i := 2) (d := .int (w : Nat)) rfl, own_int, PM_nei, List.length_map, decide_eq_true (by omega)]
    simp only [Bool.not_true, Bool.false_eq_true, if_false]
    rw [PM_tNot, PM_tV]
    refine PM_allD isW (it_tup (slot_eq (d := rowD row) rfl)) (by rw [List.length_map]; omega) (fun _ => trivial) (fun d hd => ⟨_, rfl, fun acc => ?_⟩) ?_
    · change PM (eCall (CC (k + 1)) 25 1 (aCons (eSlot 4) aNil) [some (.tup [rowD row]), some (.int 1), some (.int (w : Nat)), some (rowD row), some d]) _ _
      rw [PM_eCall, PM_aCons, PM_slot (i := 4) (d := d) rfl, PM_aNil]
      refine ⟨rfl, ?_⟩
      obtain ⟨z, _, rfl⟩ := List.mem_map.mp hd
      rw [PM_of (m_whole (k := k) (by trivial))]
      exact ⟨rfl, rfl⟩
    · rw [all_int, PM_tbl]
      simp only [Bool.not_true, Bool.false_eq_true, if_false]
      rw [PZ_nx, TQ_nx]
      exact ⟨rfl, _, _, rfl⟩
  · rintro ρ S' ⟨rfl, x, y, rfl⟩
    refine ⟨trivial, ?_⟩
    rw [SQ_nx, PZ_ret, PM_eC, FQ_rt]
    exact ⟨rfl, dropR_len (Nat.le_refl _)⟩
theorem m_needlist {w : Nat} {R : List (List Int)} : (CC (k + 1)).fn 32 [listD w R] S = some (.ok (listD w R) S) := by
  refine fn_eq (PM_fnq rfl rfl rfl ?_)
  unfold b_need_list
  change PZ _ [some (listD w R)] _ _
  rw [PZ_seq, PZ_if, PM_tNot, PM_tV, PM_eOp, PM_slot (i := 0) (d := listD w R) rfl, PM_eC, PM_isiO cl_lt.1 cl_lt.1, PM_tbl]
  simp only [beq_self_eq_true, Bool.not_true, Bool.false_eq_true, if_false]
  rw [PZ_nx, SQ_nx, PZ_ret, PM_slot (i := 0) (d := listD w R) rfl, FQ_rt]
  exact ⟨rfl, dropR_len (Nat.le_refl _)⟩
theorem m_needrow {w : Nat} {R : List (List Int)} {row : List Int} (hr : row.length = w) (hw : w < 1000) : (CC (k + 3)).fn 38 [listD w R, rowD row] S = some (.ok (rowD row) S) := by
  refine fn_eq (PM_fnq rfl rfl rfl ?_)
  unfold b_need_row
  change PZ _ [some (listD w R), some (rowD row), none] _ _
  have big := sizeLine_big
  rw [PZ_seq, PZ_asg, PM_eIf, PM_tV, PM_eOp, PM_slot (i := 1) (d := rowD row) rfl, PM_eC, PM_isiT (by rw [isT_ty]; exact bs_tuple_list), PM_tbl, if_neg (by simp), PM_slot (i := 1) (d := rowD row) rfl, PZ_one, SQ_nx]
  change PZ _ [some (listD w R), some (rowD row), some (rowD row)] _ _
  rw [PZ_seq, PZ_if, PM_tNot, PM_tV, PM_eCall, PM_aCons, PM_eTup, PM_aCons, PM_slot (i := 2) (d := rowD row) rfl, PM_aNil]
  refine ⟨by simp; omega, ?_⟩
  rw [PM_aCons, PM_eC, PM_aCons, PM_eUn, PM_slot (i := 0) (d := listD w R) rfl, ld_w, PM_aNil]
  refine ⟨rfl, ?_⟩
  rw [PM_of (m_gridR (k := k) hr hw), PM_tbl]
  simp only [Bool.not_true, Bool.false_eq_true, if_false]
  rw [PZ_nx, SQ_nx, PZ_ret, PM_slot (i := 2) (d := rowD row) rfl, FQ_rt]
  exact ⟨rfl, dropR_len (Nat.le_refl _)⟩
theorem m_needby {b : Nat} (hb1 : 2 ≤ b) (hb : b ≤ 1000) : (CC (k + 2)).fn 44 [.int (b : Nat)] S = some (.ok (.int (b : Nat)) S) := by
  refine fn_eq (PM_fnq rfl rfl rfl ?_)
  unfold b_need_by
  change PZ _ [some (.int (b : Nat))] _ _
  have hw : isW (.int (b : Nat)) = true := rfl
  rw [PZ_seq, PZ_if, PM_tOr, PM_tNot, PM_tV, PM_eCall, PM_aCons, PM_slot (i := 0) (d := .int (b : Nat)) rfl, PM_aNil]
  refine ⟨rfl, ?_⟩
  rw [PM_of (m_whole (k := k) (by trivial)), hw, PM_tbl]
  simp only [Bool.not_true, Bool.false_eq_true, if_false]
  rw [PM_tNot, PM_tChn, PM_eC, PM_more, PM_slot (i := 0) (d := .int (b : Nat)) rfl, PM_le, decide_eq_true (by omega), if_pos rfl, PM_last, PM_eC, PM_le, decide_eq_true (by omega)]
  simp only [Bool.not_true, Bool.false_eq_true, if_false]
  rw [PZ_nx, SQ_nx, PZ_ret, PM_slot (i := 0) (d := .int (b : Nat)) rfl, FQ_rt]
  exact ⟨rfl, dropR_len (Nat.le_refl _)⟩
theorem m_needq {w b : Nat} {R : List (List Int)} {row : List Int} (hr : row.length = w) (hw : w < 1000) (hb1 : 2 ≤ b) (hb : b ≤ 1000) : (CC (k + 4)).fn 45 [listD w R, rowD row, .int (b : Nat)] S = some (.ok (rowD row) S) := by
  refine fn_eq (PM_fnq rfl rfl rfl ?_)
  unfold b_need_question
  change PZ _ [some (listD w R), some (rowD row), some (.int (b : Nat)), none] _ _
  rw [PZ_seq, PZ_asg, PM_eCall, PM_aCons, PM_eCall, PM_aCons, PM_slot (i := 0) (d := listD w R) rfl, PM_aNil]
  refine ⟨rfl, ?_⟩
  rw [PM_of (m_needlist (k := k + 2)), PM_aCons, PM_slot (i := 1) (d := rowD row) rfl, PM_aNil]
  refine ⟨rfl, ?_⟩
  rw [PM_of (m_needrow (k := k) hr hw), PZ_one, SQ_nx]
  change PZ _ [some (listD w R), some (rowD row), some (.int (b : Nat)), some (rowD row)] _ _
  rw [PZ_seq, PZ_drop, PM_eCall, PM_aCons, PM_slot (i := 2) (d := .int (b : Nat)) rfl, PM_aNil]
  refine ⟨rfl, ?_⟩
  rw [PM_of (m_needby (k := k + 1) hb1 hb), SQ_nx, PZ_ret, PM_slot (i := 3) (d := rowD row) rfl, FQ_rt]
  exact ⟨rfl, dropR_len (Nat.le_refl _)⟩
theorem m_mbon {w b : Nat} {R : List (List Int)} {row : List Int} (hR : RowsOk 3 w 64 R) (hw : w ≤ 3) (hb1 : 2 ≤ b) (hb : b ≤ 60) (hr : row.length = w) (hr2 : Bdd 1000 row) :
    PM ((CC (k + 8)).fn 47 [listD w R, rowD row, .int (b : Nat)]) S fun d S' => S' = S ∧ ToldB R.length w b d := by
  refine PM_fnq rfl rfl rfl ?_
  unfold b_made_by_or_not
  change PZ _ [some (listD w R), some (rowD row), some (.int (b : Nat)), none] _ _
  rw [PZ_seq, PZ_asg, PM_eCall, PM_aCons, PM_slot (i := 0) (d := listD w R) rfl, PM_aCons, PM_slot (i := 1) (d := rowD row) rfl, PM_aCons, PM_slot (i := 2) (d := .int (b : Nat)) rfl, PM_aNil]
  refine ⟨rfl, ?_⟩
  rw [PM_of (m_needq (k := k + 3) hr (by omega) hb1 (by omega)), PZ_one, SQ_nx]
  change PZ _ [some (listD w R), some (rowD row), some (.int (b : Nat)), some (rowD row)] _ _
  rw [PZ_ret, PM_eCall, PM_aCons, PM_eUn, PM_slot (i := 0) (d := listD w R) rfl, ld_r, PM_aCons, PM_eUn, PM_slot (i := 0) (d := listD w R) rfl, ld_w, PM_aCons, PM_slot (i := 3) (d := rowD row) rfl, PM_aCons, PM_slot (i := 2) (d := .int (b : Nat)) rfl, PM_aNil]
  refine ⟨rfl, (m_monb (k := k) hR hw hb1 hb hr hr2).imp ?_⟩
  rintro d S2 ⟨rfl, h⟩
  rw [FQ_rt, dropR_len (Nat.le_refl _)]
  exact ⟨rfl, h⟩
end


section
variable {k : Nat} {S S' S2 : Store} {ρ : En} {Q : D → Store → Prop} {B : Bool → Store → Prop}
def leftB (n b : Nat) : D → Bool
  | .tup es => decide (es.length = n) && es.all fun e => isIx e b
  | _ => false
theorem isIx_int {e : D} {b : Nat} (h : isIx e b = true) : ∃ x : Int, e = .int x ∧ 0 ≤ x ∧ x < (b : Int) := by
  cases e with
  | int x =>
    have h : (decide (0 ≤ x) && decide (x < (b : Int))) = true := h
    rw [Bool.and_eq_true, decide_eq_true_eq, decide_eq_true_eq] at h
    exact ⟨x, rfl, h⟩
  | _ => cases h
theorem all_ix : ∀ {es : List D} {b : Nat}, (es.all fun e => isIx e b) = true → ∃ xs : List Int, es = xs.map .int ∧ ∀ x ∈ xs, 0 ≤ x ∧ x < (b : Int)
  | [], _, _ => ⟨[], rfl, fun _ h => by cases h⟩
  | e :: es, b, h => by
    rw [List.all_cons, Bool.and_eq_true] at h
    obtain ⟨x, rfl, hx⟩ := isIx_int h.1
    obtain ⟨xs, rfl, hxs⟩ := all_ix h.2
    exact ⟨x :: xs, rfl, fun y hy => (List.mem_cons.mp hy).elim (fun e => e ▸ hx) (hxs y)⟩
theorem left_ints {n b : Nat} {t : D} (h : leftB n b t = true) : ∃ xs, t = rowD xs ∧ LeftN n b xs := by
  cases t with
  | tup es =>
    have h : (decide (es.length = n) && es.all fun e => isIx e b) = true := h
    rw [Bool.and_eq_true, decide_eq_true_eq] at h
    obtain ⟨xs, rfl, hx⟩ := all_ix h.2
    exact ⟨xs, rfl, by simpa using h.1, hx⟩
  | _ => cases h
theorem m_left {kb n b : Nat} {t : D} (ht : RV kb t) : (CC (k + 3)).fn 48 [t, .int (n : Nat), .int (b : Nat)] S = some (.ok (.bl (leftB n b t)) S) := by
  refine fn_eq (PM_fnq rfl rfl rfl ?_)
  unfold b_are_leftovers
  change PZ _ [some t, some (.int (n : Nat)), some (.int (b : Nat)), none] _ _
  have big := sizeLine_big
  rw [PZ_ret, PM_eAnd, PM_eOp, PM_slot (i := 0) (d := t) rfl, PM_eC, isi_tup ht.pl.1, PM_tbl]
  rcases ht with rfl | ⟨es, rfl, h1, h2⟩
  · exact ⟨rfl, dropR_len (Nat.le_refl _)⟩
  · have e0 : leftB n b (.tup es) = (decide (es.length = n) && es.all fun e => isIx e b) := rfl
    simp only [if_true]
    rw [PM_eAnd, PM_eT, PM_tCmp, PM_eUn, PM_slot (i := 0) (d := .tup es) rfl, PM_lenT, PM_slot (i := 1) (d := .int (n : Nat)) rfl, own_int, PM_eqi, PM_tbl, e0]
    by_cases hl : (es.length : Int) = (n : Int)
    · have hl2 : es.length = n := by omega
      rw [decide_eq_true hl, decide_eq_true hl2, Bool.true_and]
      simp only [if_true]
      refine PM_allD (fun e => isIx e b) (it_tup (slot_eq (d := .tup es) rfl)) (by omega) (fun _ => trivial) (fun d hd => ⟨_, rfl, fun acc => ?_⟩) ?_
      · change PM (eCall (CC (k + 2)) 28 2 (aCons (eSlot 3) (aCons (eSlot 2) aNil)) [some (.tup es), some (.int (n : Nat)), some (.int (b : Nat)), some d]) _ _
        rw [PM_eCall, PM_aCons, PM_slot (i := 3) (d := d) rfl, PM_aCons, PM_slot (i := 2) (d := .int (b : Nat)) rfl, PM_aNil]
        refine ⟨rfl, ?_⟩
        rw [PM_of (m_index (k := k) (h2 d hd).pl)]
        exact ⟨rfl, rfl⟩
      · exact ⟨rfl, dropR_len (Nat.le_refl _)⟩
    · have hl2 : ¬ es.length = n := by omega
      rw [decide_eq_false hl, decide_eq_false hl2, Bool.false_and]
      exact ⟨rfl, dropR_len (Nat.le_refl _)⟩
def sameB (xs row : List Int) (b : Nat) : Bool := (List.zipWith (fun x y : Int => decide ((x - y).fmod (b : Int) = 0)) xs row).all id
def sameD (b : Nat) : D → Bool
  | .tup [.int x, .int y] => decide ((x - y).fmod (b : Int) = 0)
  | _ => false
theorem zip_same {b : Nat} : ∀ xs ys : List Int, (zipL (xs.map .int) (ys.map .int)).all (sameD b) = sameB xs ys b
  | [], _ => by simp [zipL, sameB]
  | _ :: _, [] => by simp [zipL, sameB]
  | x :: xs, y :: ys => by
    have ih := zip_same (b := b) xs ys
    have e : zipL ((x :: xs).map D.int) ((y :: ys).map D.int) = .tup [.int x, .int y] :: zipL (xs.map .int) (ys.map .int) := rfl
    rw [e, List.all_cons, ih]
    unfold sameB
    rw [List.zipWith_cons_cons, List.all_cons]
    rfl
theorem zip_mem2 {xs ys : List Int} {d : D} (h : d ∈ zipL (xs.map D.int) (ys.map D.int)) : ∃ x y : Int, d = .tup [.int x, .int y] ∧ x ∈ xs ∧ y ∈ ys := by
  obtain ⟨n, hn, rfl⟩ := List.getElem_of_mem h
  obtain ⟨u, v, h1, h2, e⟩ := zip_at (List.getElem?_eq_getElem hn)
  obtain ⟨x, hx, rfl⟩ := List.mem_map.mp (List.mem_of_getElem? h1)
  obtain ⟨y, hy, rfl⟩ := List.mem_map.mp (List.mem_of_getElem? h2)
  exact ⟨x, y, e, hx, hy⟩
theorem it_zip {e f : Ev} {da db : D} {xs ys : List Int} (ha : PM (e ρ) S fun d S' => d = da ∧ S' = S) (hb : PM (f ρ) S fun d S' => d = db ∧ S' = S) (hx : ISeq S da xs) (hy : ISeq S db ys) : ∃ src, iZip e f ρ S = some (.ok ⟨zipL (xs.map .int) (ys.map .int), src⟩ S) ∧ ∀ X, src.ok (S ++ X) := by
  obtain ⟨s1, e1, o1⟩ := hx.seq
  obtain ⟨s2, e2, o2⟩ := hy.seq
  refine ⟨.two s1 s2, fn_eq ?_, fun X => ⟨o1 X, o2 X⟩⟩
  rw [PM_zip]
  refine ha.imp ?_
  rintro d S1 ⟨rfl, rfl⟩
  refine hb.imp ?_
  rintro d S2 ⟨rfl, rfl⟩
  rw [PM_of e1, PM_of e2]
  exact ⟨rfl, rfl⟩
theorem m_same {b : Nat} {da db : D} {xs ys : List Int} (hx : ISeq S da xs) (hy : ISeq S db ys) (hl : xs.length < 1000) (hb : 1 ≤ b) : (CC (k + 1)).fn 49 [da, db, .int (b : Nat)] S = some (.ok (.bl (sameB xs ys b)) S) := by
  refine fn_eq (PM_fnq rfl rfl rfl ?_)
  unfold b_are_same_by
  change PZ _ [some da, some db, some (.int (b : Nat)), none, none] _ _
  have big := sizeLine_big
  rw [PZ_ret]
  obtain ⟨src, hit, ok⟩ := it_zip (e := eSlot 0) (f := eSlot 1) (ρ := [some da, some db, some (.int (b : Nat)), none, none]) (slot_eq rfl) (slot_eq rfl) hx hy
  refine PM_allD (sameD b) hit (by rw [zipL_length, List.length_map]; omega) (fun _ => ok _) (fun d hd => ?_) ?_
  · obtain ⟨x, y, rfl, _, _⟩ := zip_mem2 hd
    refine ⟨_, rfl, fun acc => ?_⟩
    change PM (eT (tCmp (cOwn Γ (CC k) "__eq__" cEq) (eOp oMod (eOp oSub (eSlot 3) (eSlot 4)) (eSlot 2)) (eC (.int 0))) [some da, some db, some (.int (b : Nat)), some (.int x), some (.int y)]) _ _
    rw [PM_eT, PM_tCmp, PM_eOp, PM_eOp, PM_slot (i := 3) (d := .int x) rfl, PM_slot (i := 4) (d := .int y) rfl, PM_sub, PM_slot (i := 2) (d := .int (b : Nat)) rfl, PM_mod]
    refine ⟨by omega, ?_⟩
    rw [PM_eC, own_int, PM_eqi]
    exact ⟨rfl, rfl⟩
  · rw [zip_same, FQ_rt]
    exact ⟨rfl, dropR_len (Nat.le_refl _)⟩
/-- the values that are judged -/
inductive BV (kb ca cb : Nat) : D → Prop
  | a {t : D} (h : RV kb t) : BV kb ca cb (.obj ca [t])
  | b {t : D} : BV kb ca cb (.obj cb [t])
  | non : BV kb ca cb .non
  | tup {xs : List D} : BV kb ca cb (.tup xs)
/-- what is behind the numbers -/
def inD (f : List Int → Bool) : D → Bool
  | .tup es => (match asInts es with
    | some xs => f xs
    | none => false)
  | _ => false
theorem inD_row {f : List Int → Bool} {xs : List Int} : inD f (rowD xs) = f xs := by
  unfold inD
  simp only [asInts_int]
def judB (c n b : Nat) (f : List Int → Bool) : D → Bool
  | .obj c' [t] => decide (c' = c) && (leftB n b t && inD f t)
  | _ => false
theorem judB_a {c n b : Nat} {f : List Int → Bool} {t : D} : judB c n b f (.obj c [t]) = (leftB n b t && inD f t) := by
  show (decide (c = c) && _) = _
  rw [decide_eq_true rfl, Bool.true_and]
theorem judB_b {c c2 n b : Nat} {f : List Int → Bool} {t : D} (h : c2 ≠ c) : judB c n b f (.obj c2 [t]) = false := by
  show (decide (c2 = c) && _) = _
  rw [decide_eq_false h, Bool.false_and]
theorem m_mbh {kb w b : Nat} {R : List (List Int)} {row : List Int} {v : D} (hkb : kb = 100) (hR : RowsOk 3 w 64 R) (hw : w ≤ 3) (hb1 : 2 ≤ b) (hb : b ≤ 60) (hr : row.length = w) (hv : BV kb 4 5 v) :
    (CC (k + 5)).fn 50 [listD w R, rowD row, .int (b : Nat), v] S = some (.ok (.bl (judB 4 R.length b (fun xs => sameB (sumR xs R w) row b) v)) S) := by
  refine fn_eq (PM_fnq rfl rfl rfl ?_)
  unfold b_made_by_holds
  change PZ _ [some (listD w R), some (rowD row), some (.int (b : Nat)), some v, none] _ _
  have hR1 := hR.1
  rw [PZ_seq, PZ_asg, PM_eCall, PM_aCons, PM_slot (i := 0) (d := listD w R) rfl, PM_aCons, PM_slot (i := 1) (d := rowD row) rfl, PM_aCons, PM_slot (i := 2) (d := .int (b : Nat)) rfl, PM_aNil]
  refine ⟨rfl, ?_⟩
  rw [PM_of (m_needq (k := k) hr (by omega) hb1 (by omega)), PZ_one, SQ_nx]
  change PZ _ [some (listD w R), some (rowD row), some (.int (b : Nat)), some v, some (rowD row)] _ _
  rw [PZ_seq, PZ_if, PM_tOr, PM_tNot, PM_tV, PM_eOp, PM_slot (i := 3) (d := v) rfl, PM_eC]
  cases hv with
  | non =>
    rw [PM_isiC rfl (by decide) cl_lt.2.2.2.1, PM_tbl]
    exact ⟨_, rfl, trivial, rfl, dropR_len (Nat.le_refl _)⟩
  | tup =>
    rw [PM_isiC rfl (by decide) cl_lt.2.2.2.1, PM_tbl]
    exact ⟨_, rfl, trivial, rfl, dropR_len (Nat.le_refl _)⟩
  | b =>
    have e0 : ((5 : Nat) == 4) = false := by decide
    rw [PM_isiO cl_lt.2.2.2.2 cl_lt.2.2.2.1, PM_tbl, e0, judB_b (by decide)]
    exact ⟨_, rfl, trivial, rfl, dropR_len (Nat.le_refl _)⟩
  | @a t ht =>
    rw [PM_isiO cl_lt.2.2.2.1 cl_lt.2.2.2.1, PM_tbl, judB_a]
    simp only [beq_self_eq_true, Bool.not_true, Bool.false_eq_true, if_false]
    rw [PM_tNot, PM_tV, PM_eCall, PM_aCons, PM_eUn, PM_slot (i := 3) (d := .obj 4 [t]) rfl, PM_fldO (d := t) rfl, PM_aCons, PM_eUn, PM_eUn, PM_slot (i := 0) (d := listD w R) rfl, ld_r, PM_lenT, PM_aCons, PM_slot (i := 2) (d := .int (b : Nat)) rfl, PM_aNil, List.length_map]
    refine ⟨rfl, ?_⟩
    rw [PM_of (m_left (k := k + 1) ht), PM_tbl]
    cases hl : leftB R.length b t with
    | false => exact ⟨_, rfl, trivial, rfl, dropR_len (Nat.le_refl _)⟩
    | true =>
      obtain ⟨xs, rfl, l1, l2⟩ := left_ints hl
      simp only [Bool.not_true, Bool.false_eq_true, if_false]
      rw [PZ_nx, SQ_nx, PZ_ret, PM_eCall, PM_aCons, PM_eCall, PM_aCons, PM_eUn, PM_slot (i := 3) (d := .obj 4 [rowD xs]) rfl, PM_fldO (d := rowD xs) rfl, PM_aCons, PM_eUn, PM_slot (i := 0) (d := listD w R) rfl, ld_r, PM_aCons, PM_eUn, PM_slot (i := 0) (d := listD w R) rfl, ld_w, PM_aNil]
      refine ⟨rfl, ?_⟩
      refine m_sum (k := k + 3) seq_row seq_tab hR.2.1 (by omega) (fun m hm r hr z hz => mulOk_l (by have := l2 m hm; omega) (by have := l2 m hm; omega)) fun X q hq hqs => ?_
      rw [PM_aCons, PM_slot (i := 4) (d := rowD row) rfl, PM_aCons, PM_slot (i := 2) (d := .int (b : Nat)) rfl, PM_aNil]
      refine ⟨rfl, ?_⟩
      rw [PM_of (m_same (k := k + 3) (.inl ⟨q, rfl, hq⟩) seq_row (by rw [sumR_len hR.2.1]; omega) (by omega)), FQ_rt, inD_row, Bool.true_and]
      exact ⟨rfl, drop_pl (by trivial)⟩
theorem m_div {ts row : List Int} {b : Int} (hl : ts.length < 1000000) (hm : ∀ x ∈ ts, ∀ y ∈ row, mulOk x y) (hb : b ≠ 0) : (CC (k + 1)).fn 51 [rowD ts, rowD row, .int b] S = some (.ok (.bl (mulB ts row b)) S) := by
  refine fn_eq (PM_fnq rfl rfl rfl ?_)
  unfold b_does_divide
  exact mult_body hl hm hb
theorem m_nbh {kb w b : Nat} {R : List (List Int)} {row : List Int} {v : D} (hkb : kb = 100) (hR : RowsOk 3 w 64 R) (hw : w ≤ 3) (hb1 : 2 ≤ b) (hb : b ≤ 60) (hr : row.length = w) (hv : BV kb 5 4 v) :
    (CC (k + 5)).fn 52 [listD w R, rowD row, .int (b : Nat), v] S = some (.ok (.bl (judB 5 w b (fun xs => (R.all fun r => mulB xs r b) && !mulB xs row b) v)) S) := by
  refine fn_eq (PM_fnq rfl rfl rfl ?_)
  unfold b_not_made_by_holds
  change PZ _ [some (listD w R), some (rowD row), some (.int (b : Nat)), some v, none, none] _ _
  have hR1 := hR.1
  have big := sizeLine_big
  rw [PZ_seq, PZ_asg, PM_eCall, PM_aCons, PM_slot (i := 0) (d := listD w R) rfl, PM_aCons, PM_slot (i := 1) (d := rowD row) rfl, PM_aCons, PM_slot (i := 2) (d := .int (b : Nat)) rfl, PM_aNil]
  refine ⟨rfl, ?_⟩
  rw [PM_of (m_needq (k := k) hr (by omega) hb1 (by omega)), PZ_one, SQ_nx]
  change PZ _ [some (listD w R), some (rowD row), some (.int (b : Nat)), some v, some (rowD row), none] _ _
  rw [PZ_seq, PZ_if, PM_tOr, PM_tNot, PM_tV, PM_eOp, PM_slot (i := 3) (d := v) rfl, PM_eC]
  cases hv with
  | non =>
    rw [PM_isiC rfl (by decide) cl_lt.2.2.2.2, PM_tbl]
    exact ⟨_, rfl, trivial, rfl, dropR_len (Nat.le_refl _)⟩
  | tup =>
    rw [PM_isiC rfl (by decide) cl_lt.2.2.2.2, PM_tbl]
    exact ⟨_, rfl, trivial, rfl, dropR_len (Nat.le_refl _)⟩
  | b =>
    have e0 : ((4 : Nat) == 5) = false := by decide
    rw [PM_isiO cl_lt.2.2.2.1 cl_lt.2.2.2.2, PM_tbl, e0, judB_b (by decide)]
    exact ⟨_, rfl, trivial, rfl, dropR_len (Nat.le_refl _)⟩
  | @a t ht =>
    rw [PM_isiO cl_lt.2.2.2.2 cl_lt.2.2.2.2, PM_tbl, judB_a]
    simp only [beq_self_eq_true, Bool.not_true, Bool.false_eq_true, if_false]
    rw [PM_tNot, PM_tV, PM_eCall, PM_aCons, PM_eUn, PM_slot (i := 3) (d := .obj 5 [t]) rfl, PM_fldO (d := t) rfl, PM_aCons, PM_eUn, PM_slot (i := 0) (d := listD w R) rfl, ld_w, PM_aCons, PM_slot (i := 2) (d := .int (b : Nat)) rfl, PM_aNil]
    refine ⟨rfl, ?_⟩
    rw [PM_of (m_left (k := k + 1) ht), PM_tbl]
    cases hl : leftB w b t with
    | false => exact ⟨_, rfl, trivial, rfl, dropR_len (Nat.le_refl _)⟩
    | true =>
      obtain ⟨xs, rfl, l1, l2⟩ := left_ints hl
      have hm : ∀ r : List Int, ∀ x ∈ xs, ∀ y ∈ r, mulOk x y := fun r x hx y hy => mulOk_l (by have := l2 x hx; omega) (by have := l2 x hx; omega)
      simp only [Bool.not_true, Bool.false_eq_true, if_false]
      rw [PZ_nx, SQ_nx, PZ_seq, PZ_if, PM_tNot, PM_tV, inD_row, Bool.true_and]
      refine PM_allD (inD fun r => mulB xs r b) (it_tup (xs := R.map rowD) (by rw [PM_eUn, PM_slot (i := 0) (d := listD w R) rfl, ld_r]; exact ⟨rfl, rfl⟩)) (by rw [List.length_map]; omega) (fun _ => trivial) (fun d hd => ⟨_, rfl, fun acc => ?_⟩) ?_
      · obtain ⟨r, hr, rfl⟩ := List.mem_map.mp hd
        change PM (eCall (CC (k + 4)) 51 3 (aCons (eUn (oFld Γ "tops") (eSlot 3)) (aCons (eSlot 5) (aCons (eSlot 2) aNil))) [some (listD w R), some (rowD row), some (.int (b : Nat)), some (.obj 5 [rowD xs]), some (rowD row), some (rowD r)]) _ _
        rw [PM_eCall, PM_aCons, PM_eUn, PM_slot (i := 3) (d := .obj 5 [rowD xs]) rfl, PM_fldO (d := rowD xs) rfl, PM_aCons, PM_slot (i := 5) (d := rowD r) rfl, PM_aCons, PM_slot (i := 2) (d := .int (b : Nat)) rfl, PM_aNil]
        refine ⟨rfl, ?_⟩
        rw [PM_of (m_div (k := k + 3) (by omega) (hm r) (by omega)), inD_row]
        exact ⟨rfl, rfl⟩
      · have hall : (R.map rowD).all (inD fun r => mulB xs r b) = R.all fun r => mulB xs r b := by
          rw [List.all_map]
          congr 1
          funext r
          exact inD_row
        rw [hall, PM_tbl]
        cases ha : R.all fun r => mulB xs r b with
        | false => exact ⟨_, rfl, trivial, rfl, dropR_len (Nat.le_refl _)⟩
        | true =>
          simp only [Bool.not_true, Bool.false_eq_true, if_false]
          rw [PZ_nx, SQ_nx, PZ_ret, PM_eT, PM_tNot, PM_tV, PM_eCall, PM_aCons, PM_eUn, PM_slot (i := 3) (d := .obj 5 [rowD xs]) rfl, PM_fldO (d := rowD xs) rfl, PM_aCons, PM_slot (i := 4) (d := rowD row) rfl, PM_aCons, PM_slot (i := 2) (d := .int (b : Nat)) rfl, PM_aNil]
          refine ⟨rfl, ?_⟩
          rw [PM_of (m_div (k := k + 3) (by omega) (hm row) (by omega)), PM_tbl, FQ_rt, Bool.true_and]
          exact ⟨rfl, dropR_len (Nat.le_refl _)⟩
/-! ### the law's own -/
theorem lRow_ints {n : Nat} {t : D} (h : lRow n t = true) : ∃ xs : List Int, t = rowD xs ∧ xs.length = n := by
  cases t with
  | tup es =>
    have h : (decide (es.length = n) && es.all isW) = true := h
    rw [Bool.and_eq_true, decide_eq_true_eq, ← asInts_isW, Option.isSome_iff_exists] at h
    obtain ⟨h1, xs, h2⟩ := h
    have := asInts_some h2
    subst this
    exact ⟨xs, rfl, by simpa using h1⟩
  | _ => cases h
theorem left_row {n b : Nat} {xs : List Int} (h : xs.length = n) : leftB n b (rowD xs) = (xs.map D.int).all fun e => isIx e b := by
  show (decide ((xs.map D.int).length = n) && _) = _
  rw [decide_eq_true (by rw [List.length_map]; exact h), Bool.true_and]
theorem left_lrow {n b : Nat} {t : D} (h : lRow n t = false) : leftB n b t = false := by
  cases hl : leftB n b t with
  | false => rfl
  | true =>
    obtain ⟨xs, rfl, h1, _⟩ := left_ints hl
    have : lRow n (rowD xs) = true := by
      show (decide ((xs.map D.int).length = n) && (xs.map D.int).all isW) = true
      rw [all_int, decide_eq_true (by rw [List.length_map]; exact h1)]; rfl
    rw [this] at h; cases h
theorem e_left {kb n b : Nat} {t : D} (ht : RV kb t) : (CC (k + 3)).fn 64 [t, .int (n : Nat), .int (b : Nat)] S = some (.ok (.bl (leftB n b t)) S) := by
  refine fn_eq (PM_fnq rfl rfl rfl ?_)
  unfold b__law_are_left
  change PZ _ [some t, some (.int (n : Nat)), some (.int (b : Nat)), none] _ _
  have big := sizeLine_big
  rw [PZ_ret, PM_eAnd, PM_eCall, PM_aCons, PM_slot (i := 0) (d := t) rfl, PM_aCons, PM_slot (i := 1) (d := .int (n : Nat)) rfl, PM_aNil]
  refine ⟨rfl, ?_⟩
  rw [PM_of (e_lrow (k := k) (n := n) ht), PM_tbl]
  cases hl : lRow n t with
  | false =>
    rw [left_lrow hl]
    exact ⟨rfl, dropR_len (Nat.le_refl _)⟩
  | true =>
    obtain ⟨xs, rfl, h1⟩ := lRow_ints hl
    have hlen : xs.length < 1000 := by
      rcases ht with h | ⟨es, e, h2, _⟩
      · cases h
      · cases e; simpa using h2
    simp only [if_true]
    rw [PM_eT, PM_tCmp]
    refine PM_fltD (fun d => !isIx d b) (it_tup (slot_eq (d := rowD xs) rfl)) (by rw [List.length_map]; omega) (fun _ => trivial) (fun d hd => ⟨_, rfl, fun acc => ⟨?_, slot_eq rfl⟩⟩) ?_
    · obtain ⟨z, _, rfl⟩ := List.mem_map.mp hd
      change PM (tNot (tChn (eC (.int 0)) (.more cLe (eSlot 3) (.last cLt (eSlot 2)))) [some (rowD xs), some (.int (n : Nat)), some (.int (b : Nat)), some (.int z)]) _ _
      have e : isIx (.int z) b = (decide (0 ≤ z) && decide (z < (b : Int))) := rfl
      rw [PM_tNot, PM_tChn, PM_eC, PM_more, PM_slot (i := 3) (d := .int z) rfl, PM_le, e]
      by_cases h : 0 ≤ z
      · rw [decide_eq_true h, if_pos rfl, PM_last, PM_slot (i := 2) (d := .int (b : Nat)) rfl, PM_lt, Bool.true_and]
        exact ⟨rfl, rfl⟩
      · rw [decide_eq_false h, if_neg (by simp), Bool.false_and]
        exact ⟨rfl, rfl⟩
    · rw [PM_eLst, PM_aNil]
      refine ⟨Nat.zero_le _, ?_⟩
      obtain ⟨ps, hps⟩ := toPs_env (kb := kb) (es := (xs.map D.int).filter fun d => !isIx d b) fun e he => by
        rcases ht with h | ⟨es, e2, _, h2⟩
        · cases h
        · cases e2; exact h2 e (List.mem_filter.mp he).1
      have g1 : ((S ++ [Cell.lst ((xs.map D.int).filter fun d => !isIx d b)]) ++ [Cell.lst []])[S.length]? = some (.lst ((xs.map D.int).filter fun d => !isIx d b)) := get_ap get_last
      rw [PM_ownL g1, PM_eqNil g1 get_last hps, filter_emptyL, FQ_rt, List.append_assoc, left_row h1]
      exact ⟨rfl, drop_pl (by trivial)⟩
/-- [c for .. if cnd] == [] -/
theorem PM_fltC {own : List Nat} {it : Iv} {tg : Tg} {cnd : Tv} {c : D} {items : List D} {src : Src} (f : D → Bool) (hit : it ρ S = some (.ok ⟨items, src⟩ S)) (hl : items.length < sizeLine) (hok : ∀ acc, src.ok (S ++ [.lst acc]))
    (he : ∀ d ∈ items, ∃ ρ1, tg.asg d (own.foldr (fun i ρ => ρ.set i none) ρ) = some ρ1 ∧ ∀ acc, PM (cnd ρ1) (S ++ [.lst acc]) (fun y S' => y = f d ∧ S' = S ++ [.lst acc]))
    (hQ : Q (.ref S.length) (S ++ [.lst ((items.filter f).map fun _ => c)])) : PM (eComp own it tg cnd (eC c) ρ) S Q := by
  refine PM_comp ?_
  rw [PM_of hit]
  refine ⟨hl, fun d => if f d then some c else none, hok, fun d hd => ?_, ?_⟩
  · obtain ⟨ρ1, h1, h2⟩ := he d hd
    refine ⟨ρ1, h1, fun acc => ?_⟩
    refine (h2 acc).imp ?_
    rintro y S' ⟨rfl, rfl⟩
    refine ⟨rfl, ?_⟩
    cases hf : f d with
    | true =>
      simp only [if_true]
      rw [PM_eC]
      exact ⟨rfl, by simp [hf]⟩
    | false => simp [hf]
  · have : items.filterMap (fun d => if f d then some c else none) = (items.filter f).map fun _ => c := by
      clear hit hl he hQ
      induction items with
      | nil => rfl
      | cons x xs ih =>
        rw [List.filterMap_cons, List.filter_cons]
        cases f x <;> simp [ih]
    rw [this]; exact hQ
theorem toPs_const {c : D} {p : PyData} (h : toP c = some p) : ∀ xs : List D, toPs (xs.map fun _ => c) = some (xs.map fun _ => p)
  | [] => rfl
  | x :: xs => by
    rw [List.map_cons]
    unfold toPs
    rw [toPs_const h xs, h]
    rfl
end


section
variable {k : Nat} {S S' S2 : Store} {ρ : En} {Q : D → Store → Prop} {B : Bool → Store → Prop} {a0 a1 a2 a3 a4 a5 a6 a7 a8 a9 a10 a11 a12 a13 a14 a15 a16 a17 a18 a19 : Option D}
theorem belowDs_map {n : Nat} {F : Int → D} (h : ∀ x, belowD n (F x)) : ∀ xs : List Int, belowDs n (xs.map F)
  | [] => trivial
  | x :: xs => ⟨h x, belowDs_map h xs⟩
/-- tuple([.. for x in own]) of numbers -/
theorem tupc {st q : Nat} {xs : List Int} {el : Ev} (F : Int → D) (hq : ρ[q]? = some (some (rowD xs))) (hl : xs.length < 1000) (hb : ∀ x n, belowD n (F x)) (he : ∀ x ∈ xs, ∀ S', PM (el ((ρ.set st none).set st (some (.int x)))) S' fun d S2 => d = F x ∧ S2 = S') :
    PM (eDrop (eUn fTup (eComp [st] (iSeq (eSlot q)) (.one st) tTrue el)) ρ) S Q ↔ Q (.tup (xs.map F)) S := by
  refine PM_of (fn_eq (S2 := S) (v := D.tup (xs.map F)) ?_)
  have big := sizeLine_big
  rw [PM_eDrop, PM_eUn]
  refine PM_mapc F (slot_eq hq) seq_row (by omega) (fun x hx acc => he x hx _) ?_
  rw [PM_tupL get_last]
  exact ⟨rfl, drop_pl (d := .tup (xs.map F)) (belowDs_map (fun x => hb x _) xs)⟩
theorem left_sm {n b : Nat} {xs : List Int} (h : LeftN n b xs) (hb : b ≤ 60) : small 100 xs := fun x hx => by
  have := h.2 x hx
  have e : 2 ^ 6 ≤ 2 ^ 100 := p2m (by omega)
  omega
theorem sm_of {xs : List Int} (h : ∀ x ∈ xs, x.natAbs ≤ 1000) : small 100 xs := fun x hx => by
  have := h x hx
  have e : 2 ^ 10 ≤ 2 ^ 100 := p2m (by omega)
  omega
theorem rv_row {xs : List Int} (h : ∀ x ∈ xs, x.natAbs ≤ 1000) (hl : xs.length < 1000) : RV 100 (rowD xs) := .inr (RowV.row (sm_of h) hl)
theorem rv_tup {es : List D} (h : es.length < 1000) (h2 : ∀ e ∈ es, EnV 100 e) : RV 100 (.tup es) := .inr ⟨es, rfl, h, h2⟩
theorem x_own1 {n w b : Nat} {told : D} {R : List (List Int)} (hp : PenAt 0 1 S) (ht : ToldB R.length w b told) (hR : R.length ≤ 3) (hb1 : 2 ≤ b) (hb : b ≤ 60) :
    PM (eIf (tV (eOp (fIsi Γ) (eSlot 8) (eC (.cls 4)))) (eUn (oFld Γ "numbers") (eSlot 8)) (eDrop (eUn fTup (eComp [16] (iSeq (eSlot 5)) (.one 16) tTrue (eCall (CC (k + 1)) 54 2 (aCons (eSlot 1) (aCons (eSlot 4) aNil)))))) [a0, some (.ref 0), a2, a3, some (.int (b : Nat)), some (tabD R), a6, a7, some told, a9, a10, a11, a12, a13, a14, a15, a16, a17, a18, a19]) S
      fun d S' => Pn S S' ∧ ∃ xs, d = rowD xs ∧ LeftN R.length b xs := by
  have big := sizeLine_big
  rw [PM_eIf, PM_tV, PM_eOp, PM_slot (i := 8) (d := told) rfl, PM_eC]
  rcases ht with ⟨ns, rfl, h⟩ | ⟨ts, rfl, h⟩
  · rw [PM_isiO cl_lt.2.2.2.1 cl_lt.2.2.2.1, PM_tbl]
    simp only [beq_self_eq_true, if_true]
    rw [PM_eUn, PM_slot (i := 8) (d := .obj 4 [rowD ns]) rfl, PM_fldO (d := rowD ns) rfl]
    exact ⟨Pn.refl hp, ns, rfl, h⟩
  · have e0 : ((5 : Nat) == 4) = false := by decide
    rw [PM_isiO cl_lt.2.2.2.2 cl_lt.2.2.2.1, PM_tbl]
    simp only [e0, Bool.false_eq_true, if_false]
    refine (pm_drawt (fun _ y => ∃ x : Int, y = .int x ∧ 0 ≤ x ∧ x < (b : Int)) hp (it_tup (slot_eq (d := tabD R) rfl)) (by rw [List.length_map]; omega) (fun _ _ => trivial) fun j d S1 hj h1 => ⟨_, rfl, ?_⟩).imp ?_
    · exact (drawI (k := k) (i := 1) (m := (b : Int)) h1.1 (slot_eq rfl) (by omega) (by omega) rfl)
    · rintro d S1 ⟨h1, ys, rfl, h3, h4⟩
      obtain ⟨xs, rfl, hx⟩ := exists_map (f := D.int) (of_ix h4)
      rw [List.length_map, List.length_map] at h3
      exact ⟨h1, xs, rfl, h3, hx⟩
theorem x_own2 {n w b : Nat} {told : D} (hp : PenAt 0 1 S) (ht : ToldB n w b told) (hw : w ≤ 3) (hb1 : 2 ≤ b) (hb : b ≤ 60) :
    PM (eIf (tV (eOp (fIsi Γ) (eSlot 8) (eC (.cls 5)))) (eUn (oFld Γ "tops") (eSlot 8)) (eDrop (eUn fTup (eComp [19] (iRng1 (eSlot 3)) (.one 19) tTrue (eCall (CC (k + 1)) 54 2 (aCons (eSlot 1) (aCons (eSlot 4) aNil)))))) [a0, some (.ref 0), a2, some (.int (w : Nat)), some (.int (b : Nat)), a5, a6, a7, some told, a9, a10, a11, a12, a13, a14, a15, a16, a17, a18, a19]) S
      fun d S' => Pn S S' ∧ ∃ xs, d = rowD xs ∧ LeftN w b xs := by
  have big := sizeLine_big
  rw [PM_eIf, PM_tV, PM_eOp, PM_slot (i := 8) (d := told) rfl, PM_eC]
  rcases ht with ⟨ns, rfl, h⟩ | ⟨ts, rfl, h⟩
  · have e0 : ((4 : Nat) == 5) = false := by decide
    rw [PM_isiO cl_lt.2.2.2.1 cl_lt.2.2.2.2, PM_tbl]
    simp only [e0, Bool.false_eq_true, if_false]
    refine (pm_drawt (fun _ y => ∃ x : Int, y = .int x ∧ 0 ≤ x ∧ x < (b : Int)) hp (it_rng (n := w) (slot_eq rfl) (by omega)) (by rw [rng_len]; omega) (fun _ _ => trivial) fun j d S1 hj h1 => ⟨_, rfl, ?_⟩).imp ?_
    · exact (drawI (k := k) (i := 1) (m := (b : Int)) h1.1 (slot_eq rfl) (by omega) (by omega) rfl)
    · rintro d S1 ⟨h1, ys, rfl, h3, h4⟩
      obtain ⟨xs, rfl, hx⟩ := exists_map (f := D.int) (of_ix h4)
      rw [List.length_map, rng_len] at h3
      exact ⟨h1, xs, rfl, h3, hx⟩
  · rw [PM_isiO cl_lt.2.2.2.2 cl_lt.2.2.2.2, PM_tbl]
    simp only [beq_self_eq_true, if_true]
    rw [PM_eUn, PM_slot (i := 8) (d := .obj 5 [rowD ts]) rfl, PM_fldO (d := rowD ts) rfl]
    exact ⟨Pn.refl hp, ts, rfl, h⟩
section
variable {n b : Nat} {xs : List Int}
theorem left_abs (h : LeftN n b xs) (hb : b ≤ 60) : ∀ x ∈ xs, x.natAbs ≤ 1000 := fun x hx => by have := h.2 x hx; omega
theorem rv_cut (h : LeftN n b xs) (hb : b ≤ 60) (hn : n ≤ 3) {lo hi : Option Int} : RV 100 (.tup (cutD (xs.map D.int) lo hi)) := by
  refine rv_tup (by have := cut_len (xs := xs.map D.int) (lo := lo) (hi := hi); rw [List.length_map, h.1] at this; omega) fun e he => ?_
  obtain ⟨x, hx, rfl⟩ := List.mem_map.mp (cut_mem he)
  exact .inr ⟨x, rfl, left_sm h hb x hx⟩
theorem rv_map (h : LeftN n b xs) (hn : n ≤ 3) {f : Int → Int} (hf : ∀ x ∈ xs, (f x).natAbs ≤ 1000) : RV 100 (.tup (xs.map fun x => .int (f x))) := by
  refine rv_tup (by rw [List.length_map, h.1]; omega) fun e he => ?_
  obtain ⟨x, hx, rfl⟩ := List.mem_map.mp he
  exact .inr ⟨f x, rfl, sm_of (xs := [f x]) (fun y hy => by rw [List.mem_singleton.mp hy]; exact hf x hx) _ (by simp)⟩
theorem rv_true (h : LeftN n b xs) (hn : n ≤ 3) : RV 100 (.tup (xs.map fun _ => .bl true)) := by
  refine rv_tup (by rw [List.length_map, h.1]; omega) fun e he => ?_
  obtain ⟨x, hx, rfl⟩ := List.mem_map.mp he
  exact .inl ⟨true, rfl⟩
end
theorem fmod_abs3 {x : Int} {b : Nat} (hb1 : 2 ≤ b) (hb : b ≤ 60) : (x.fmod (b : Int)).natAbs ≤ 1000 := by
  have := fmod_rng (x := x) (b := b) (by omega)
  omega
theorem x_every1 {n b : Nat} {xs : List Int} (hp : PenAt 0 1 S) (h : LeftN n b xs) (hn : n ≤ 3) (hb1 : 2 ≤ b) (hb : b ≤ 60) :
    PM (eLst (aCons (eSlot 10) (aCons (eSlot 10) (aCons (eSlot 10) (aCons (eCut (eSlot 10) (pSome (eC (.int 1))) pNone) (aCons (eUn oRev (eSlot 10)) (aCons (eOp oAdd (eSlot 10) (eTup (aCons (eC (.int 0)) aNil))) (aCons (eUn fLst (eSlot 10)) (aCons (eC .non) (aCons (eDrop (eUn fTup (eComp [14] (iSeq (eSlot 10)) (.one 14) tTrue (eOp oAdd (eSlot 14) (eSlot 4))))) (aCons (eDrop (eUn fTup (eComp [14] (iSeq (eSlot 10)) (.one 14) tTrue (eOp oMod (eOp oAdd (eSlot 14) (eC (.int 1))) (eSlot 4))))) (aCons (eDrop (eUn fTup (eComp [14] (iSeq (eSlot 10)) (.one 14) tTrue (eC (.bl true))))) aNil))))))))))) [a0, a1, a2, a3, some (.int (b : Nat)), a5, a6, a7, a8, a9, some (rowD xs), a11, a12, a13, a14, a15, a16, a17, a18, a19]) S
      fun d S' => Pn S S' ∧ ∃ r, d = .ref r ∧ S.length ≤ r ∧ SLP (RV 100) S' r 11 := by
  have big := sizeLine_big
  have hl := h.1
  have ha := left_abs h hb
  have sl : ∀ (S : Store) (Q : D → Store → Prop), PM (eSlot 10 [a0, a1, a2, a3, some (.int (b : Nat)), a5, a6, a7, a8, a9, some (rowD xs), a11, a12, a13, a14, a15, a16, a17, a18, a19]) S Q ↔ Q (rowD xs) S := fun S Q => PM_slot rfl
  have ps1 : ∀ {U : Option Int → Store → Prop}, PM (pSome (eC (.int 1)) [a0, a1, a2, a3, some (.int (b : Nat)), a5, a6, a7, a8, a9, some (rowD xs), a11, a12, a13, a14, a15, a16, a17, a18, a19]) S U ↔ U (some 1) S := PM_pSome (by rw [PM_eC]; exact ⟨rfl, rfl⟩)
  have e0 : xs.map D.int ++ [D.int 0] = (xs ++ [0]).map D.int := by simp
  rw [PM_eLst, PM_aCons, sl, PM_aCons, sl, PM_aCons, sl, PM_aCons, PM_cut, sl, ps1, PM_pNone, PM_cutT, PM_aCons, PM_eUn, sl, PM_revT, PM_aCons, PM_eOp, sl, PM_eTup, PM_aCons, PM_eC, PM_aNil]
  refine ⟨by simp; omega, ?_⟩
  rw [PM_addT]
  refine ⟨by simp; omega, ?_⟩
  rw [PM_aCons, PM_eUn, sl, PM_lstT, PM_aCons, PM_eC, PM_aCons, tupc (fun x => .int (x + (b : Int))) rfl (by omega) (fun _ _ => trivial) (fun x hx S' => ?_), PM_aCons, tupc (fun x => .int ((x + 1).fmod (b : Int))) rfl (by omega) (fun _ _ => trivial) (fun x hx S' => ?_), PM_aCons, tupc (fun _ => .bl true) rfl (by omega) (fun _ _ => trivial) (fun x hx S' => by rw [PM_eC]; exact ⟨rfl, rfl⟩), PM_aNil]
  · refine ⟨by simp; omega, (Pn.ap hp _).app _, _, rfl, by simp, _, get_last, rfl, ?_⟩
    have t0 : RV 100 (rowD xs) := rv_row ha (by omega)
    have t1 : RV 100 (.tup (xs.map D.int).reverse) := by rw [← List.map_reverse]; exact rv_row (fun x hx => ha x (List.mem_reverse.mp hx)) (by rw [List.length_reverse]; omega)
    have t2 : RV 100 (.tup (xs.map D.int ++ [D.int 0])) := by
      rw [e0]
      exact rv_row (fun x hx => (List.mem_append.mp hx).elim (ha x) fun hx => by rw [List.mem_singleton.mp hx]; decide) (by simp; omega)
    intro x hx
    simp only [List.mem_cons, List.not_mem_nil, or_false] at hx
    rcases hx with rfl | rfl | rfl | rfl | rfl | rfl | rfl | rfl | rfl | rfl | rfl
    · exact t0.sv
    · exact t0.sv
    · exact t0.sv
    · exact (rv_cut h hb hn).sv
    · exact t1.sv
    · exact t2.sv
    · exact RowV.lsv (kb := 100) (RowV.row (left_sm h hb) (by omega)) (get_ap get_last) (by simp)
    · exact RV.sv (.inl rfl)
    · exact (rv_map h hn (f := fun x => x + (b : Int)) fun x hx => by have := h.2 x hx; omega).sv
    · exact (rv_map h hn (f := fun x => (x + 1).fmod (b : Int)) fun x hx => fmod_abs3 hb1 hb).sv
    · exact (rv_true h hn).sv
  · change PM (eOp oMod (eOp oAdd (eSlot 14) (eC (.int 1))) (eSlot 4) [a0, a1, a2, a3, some (.int (b : Nat)), a5, a6, a7, a8, a9, some (rowD xs), a11, a12, a13, some (.int x), a15, a16, a17, a18, a19]) _ _
    rw [PM_eOp, PM_eOp, PM_slot (i := 14) (d := .int x) rfl, PM_eC, PM_add, PM_slot (i := 4) (d := .int (b : Nat)) rfl, PM_mod]
    exact ⟨by omega, rfl, rfl⟩
  · change PM (eOp oAdd (eSlot 14) (eSlot 4) [a0, a1, a2, a3, some (.int (b : Nat)), a5, a6, a7, a8, a9, some (rowD xs), a11, a12, a13, some (.int x), a15, a16, a17, a18, a19]) _ _
    rw [PM_eOp, PM_slot (i := 14) (d := .int x) rfl, PM_slot (i := 4) (d := .int (b : Nat)) rfl, PM_add]
    exact ⟨rfl, rfl⟩
theorem x_every2 {n b : Nat} {xs : List Int} (hp : PenAt 0 1 S) (h : LeftN n b xs) (hn : n ≤ 3) (hb1 : 2 ≤ b) (hb : b ≤ 60) :
    PM (eLst (aCons (eSlot 10) (aCons (eSlot 10) (aCons (eSlot 10) (aCons (eCut (eSlot 10) (pSome (eC (.int 1))) pNone) (aCons (eUn oRev (eSlot 10)) (aCons (eOp oAdd (eSlot 10) (eTup (aCons (eC (.int 0)) aNil))) (aCons (eUn fLst (eSlot 10)) (aCons (eC .non) (aCons (eDrop (eUn fTup (eComp [14] (iSeq (eSlot 10)) (.one 14) tTrue (eOp oSub (eSlot 14) (eSlot 4))))) aNil))))))))) [a0, a1, a2, a3, some (.int (b : Nat)), a5, a6, a7, a8, a9, some (rowD xs), a11, a12, a13, a14, a15, a16, a17, a18, a19]) S
      fun d S' => Pn S S' ∧ ∃ r, d = .ref r ∧ S.length ≤ r ∧ SLP (RV 100) S' r 9 := by
  have big := sizeLine_big
  have hl := h.1
  have ha := left_abs h hb
  have sl : ∀ (S : Store) (Q : D → Store → Prop), PM (eSlot 10 [a0, a1, a2, a3, some (.int (b : Nat)), a5, a6, a7, a8, a9, some (rowD xs), a11, a12, a13, a14, a15, a16, a17, a18, a19]) S Q ↔ Q (rowD xs) S := fun S Q => PM_slot rfl
  have ps1 : ∀ {U : Option Int → Store → Prop}, PM (pSome (eC (.int 1)) [a0, a1, a2, a3, some (.int (b : Nat)), a5, a6, a7, a8, a9, some (rowD xs), a11, a12, a13, a14, a15, a16, a17, a18, a19]) S U ↔ U (some 1) S := PM_pSome (by rw [PM_eC]; exact ⟨rfl, rfl⟩)
  have e0 : xs.map D.int ++ [D.int 0] = (xs ++ [0]).map D.int := by simp
  rw [PM_eLst, PM_aCons, sl, PM_aCons, sl, PM_aCons, sl, PM_aCons, PM_cut, sl, ps1, PM_pNone, PM_cutT, PM_aCons, PM_eUn, sl, PM_revT, PM_aCons, PM_eOp, sl, PM_eTup, PM_aCons, PM_eC, PM_aNil]
  refine ⟨by simp; omega, ?_⟩
  rw [PM_addT]
  refine ⟨by simp; omega, ?_⟩
  rw [PM_aCons, PM_eUn, sl, PM_lstT, PM_aCons, PM_eC, PM_aCons, tupc (fun x => .int (x - (b : Int))) rfl (by omega) (fun _ _ => trivial) (fun x hx S' => ?_), PM_aNil]
  · refine ⟨by simp; omega, (Pn.ap hp _).app _, _, rfl, by simp, _, get_last, rfl, ?_⟩
    have t0 : RV 100 (rowD xs) := rv_row ha (by omega)
    have t1 : RV 100 (.tup (xs.map D.int).reverse) := by rw [← List.map_reverse]; exact rv_row (fun x hx => ha x (List.mem_reverse.mp hx)) (by rw [List.length_reverse]; omega)
    have t2 : RV 100 (.tup (xs.map D.int ++ [D.int 0])) := by
      rw [e0]
      exact rv_row (fun x hx => (List.mem_append.mp hx).elim (ha x) fun hx => by rw [List.mem_singleton.mp hx]; decide) (by simp; omega)
    intro x hx
    simp only [List.mem_cons, List.not_mem_nil, or_false] at hx
    rcases hx with rfl | rfl | rfl | rfl | rfl | rfl | rfl | rfl | rfl
    · exact t0.sv
    · exact t0.sv
    · exact t0.sv
    · exact (rv_cut h hb hn).sv
    · exact t1.sv
    · exact t2.sv
    · exact RowV.lsv (kb := 100) (RowV.row (left_sm h hb) (by omega)) (get_ap get_last) (by simp)
    · exact RV.sv (.inl rfl)
    · exact (rv_map h hn (f := fun x => x - (b : Int)) fun x hx => by have := h.2 x hx; omega).sv
  · change PM (eOp oSub (eSlot 14) (eSlot 4) [a0, a1, a2, a3, some (.int (b : Nat)), a5, a6, a7, a8, a9, some (rowD xs), a11, a12, a13, some (.int x), a15, a16, a17, a18, a19]) _ _
    rw [PM_eOp, PM_slot (i := 14) (d := .int x) rfl, PM_slot (i := 4) (d := .int (b : Nat)) rfl, PM_sub]
    exact ⟨rfl, rfl⟩
theorem x_every3 {n w b r : Nat} {xs : List Int} (hp : PenAt 0 1 S) (h : LeftN n b xs) (hn : n ≤ 3) (hw1 : 1 ≤ w) (hw : w ≤ 3) (hb1 : 2 ≤ b) (hb : b ≤ 60) (hr : SLP (RV 100) S r 9) :
    PM (eOp oAdd (eSlot 11) (eLst (aCons (eDrop (eUn fTup (eComp [14] (iSeq (eSlot 10)) (.one 14) tTrue (eOp oMod (eOp oMul (eC (.int 2)) (eSlot 14)) (eSlot 4))))) (aCons (eDrop (eUn fTup (eComp [14] (iSeq (eSlot 10)) (.one 14) tTrue (eC (.bl true))))) (aCons (eOp oMul (eTup (aCons (eC (.int 0)) aNil)) (eSlot 3)) aNil)))) [a0, a1, a2, some (.int (w : Nat)), some (.int (b : Nat)), a5, a6, a7, a8, a9, some (rowD xs), some (.ref r), a12, a13, a14, a15, a16, a17, a18, a19]) S
      fun d S' => Pn S S' ∧ ∃ r, d = .ref r ∧ S.length ≤ r ∧ SLP (RV 100) S' r 12 := by
  have big := sizeLine_big
  have hl := h.1
  have ha := left_abs h hb
  rw [PM_eOp, PM_slot (i := 11) (d := .ref r) rfl, PM_eLst, PM_aCons, tupc (fun x => .int ((2 * x).fmod (b : Int))) rfl (by omega) (fun _ _ => trivial) (fun x hx S' => ?_), PM_aCons, tupc (fun _ => .bl true) rfl (by omega) (fun _ _ => trivial) (fun x hx S' => by rw [PM_eC]; exact ⟨rfl, rfl⟩), PM_aCons, PM_eOp, PM_eTup, PM_aCons, PM_eC, PM_aNil]
  · refine ⟨by simp; omega, ?_⟩
    rw [PM_slot (i := 3) (d := .int (w : Nat)) rfl, PM_mulT]
    refine ⟨⟨by simp, by omega, by omega, by simp⟩, ?_⟩
    rw [rep_int, PM_aNil]
    refine ⟨by simp; omega, ?_⟩
    obtain ⟨ys, g1, g2, g3⟩ := hr
    rw [PM_addL (get_ap g1) get_last]
    refine ⟨by simp; omega, (Pn.ap hp _).app _, _, rfl, by simp, _, get_last, by simp [g2], fun x hx => ?_⟩
    rcases List.mem_append.mp hx with hx | hx
    · exact (((g3 x hx).mono (by have := get_lt g1; simp; omega)).pn hp (Pn.ap hp _)).pn (Pn.ap hp _).1 (Pn.ap (Pn.ap hp _).1 _)
    · simp only [List.mem_cons, List.not_mem_nil, or_false] at hx
      rcases hx with rfl | rfl | rfl
      · exact (rv_map h hn (f := fun x => (2 * x).fmod (b : Int)) fun x hx => fmod_abs3 hb1 hb).sv
      · exact (rv_true h hn).sv
      · exact RV.sv (rv_row (xs := List.replicate w 0) (fun x hx => by rw [(List.mem_replicate.mp hx).2]; decide) (by simp; omega))
  · change PM (eOp oMod (eOp oMul (eC (.int 2)) (eSlot 14)) (eSlot 4) [a0, a1, a2, some (.int (w : Nat)), some (.int (b : Nat)), a5, a6, a7, a8, a9, some (rowD xs), some (.ref r), a12, a13, some (.int x), a15, a16, a17, a18, a19]) _ _
    rw [PM_eOp, PM_eOp, PM_eC, PM_slot (i := 14) (d := .int x) rfl, PM_mul]
    refine ⟨mulOk_l (by omega) (by omega), ?_⟩
    rw [PM_slot (i := 4) (d := .int (b : Nat)) rfl, PM_mod]
    exact ⟨by omega, rfl, rfl⟩
end


section
variable {k : Nat} {S S' S2 : Store} {ρ : En} {Q : D → Store → Prop} {B : Bool → Store → Prop} {a0 a1 a2 a3 a4 a5 a6 a7 a8 a9 a10 a11 a12 a13 a14 a15 a16 a17 a18 a19 : Option D}
theorem x_v1 {n w b r m : Nat} {told own : D} (hp : PenAt 0 1 S) (hs : SLP (RV 100) S r m) (h1 : 1 ≤ m) (h2 : m < 100) (ht : ToldB n w b told) (hn : n ≤ 3) (hw : w ≤ 3) (hb : b ≤ 60) (ho : ∃ xs, own = .tup xs) :
    PM (eCall (CC (k + 3)) 55 2 (aCons (eSlot 1) (aCons (eOp oAdd (eComp [17] (iRng1 (eC (.int 7))) (.one 17) tTrue (eNew (CC (k + 3)) 4 1 (aCons (eCall (CC (k + 3)) 55 2 (aCons (eSlot 1) (aCons (eSlot 11) aNil))) aNil))) (eLst (aCons (eSlot 10) (aCons (eC .non) (aCons (eSlot 8) aNil))))) aNil)) [a0, some (.ref 0), a2, a3, a4, a5, a6, a7, some told, a9, some own, some (.ref r), a12, a13, a14, a15, a16, a17, a18, a19]) S
      fun d S' => Pn S S' ∧ BV 100 4 5 d := by
  obtain ⟨ox, rfl⟩ := ho
  refine pickV (k := k + 1) (d1 := .tup ox) (d2 := .non) (d3 := told) hp rfl ((pick7 (k := k) (P := RV 100) (V := BV 100 4 5) hp hs h1 (by omega) (fun d => rfl) (fun d => rfl) fun S d v Q fz hv hQ => n_madeby fz (by omega) (hQ _ (.a hv))).imp ?_) (fun S Q => PM_slot rfl) (fun S Q => PM_eC) (fun S Q => PM_slot rfl) .tup .non ?_
  · rintro d S1 ⟨rfl, p, ys, g1, g2, g3⟩
    exact ⟨rfl, p, ys, g1, by omega, g3⟩
  · rcases ht with ⟨ns, rfl, h⟩ | ⟨ts, rfl, h⟩
    · exact .a (rv_row (left_abs h hb) (by rw [h.1]; omega))
    · exact .b
theorem x_v2 {n w b r m : Nat} {told own : D} (hp : PenAt 0 1 S) (hs : SLP (RV 100) S r m) (h1 : 1 ≤ m) (h2 : m < 100) (ht : ToldB n w b told) (hn : n ≤ 3) (hw : w ≤ 3) (hb : b ≤ 60) (ho : ∃ xs, own = .tup xs) :
    PM (eCall (CC (k + 3)) 55 2 (aCons (eSlot 1) (aCons (eOp oAdd (eComp [17] (iRng1 (eC (.int 7))) (.one 17) tTrue (eNew (CC (k + 3)) 5 1 (aCons (eCall (CC (k + 3)) 55 2 (aCons (eSlot 1) (aCons (eSlot 11) aNil))) aNil))) (eLst (aCons (eSlot 10) (aCons (eC .non) (aCons (eSlot 8) aNil))))) aNil)) [a0, some (.ref 0), a2, a3, a4, a5, a6, a7, some told, a9, some own, some (.ref r), a12, a13, a14, a15, a16, a17, a18, a19]) S
      fun d S' => Pn S S' ∧ BV 100 5 4 d := by
  obtain ⟨ox, rfl⟩ := ho
  refine pickV (k := k + 1) (d1 := .tup ox) (d2 := .non) (d3 := told) hp rfl ((pick7 (k := k) (P := RV 100) (V := BV 100 5 4) hp hs h1 (by omega) (fun d => rfl) (fun d => rfl) fun S d v Q fz hv hQ => n_notmadeby fz (by omega) (hQ _ (.a hv))).imp ?_) (fun S Q => PM_slot rfl) (fun S Q => PM_eC) (fun S Q => PM_slot rfl) .tup .non ?_
  · rintro d S1 ⟨rfl, p, ys, g1, g2, g3⟩
    exact ⟨rfl, p, ys, g1, by omega, g3⟩
  · rcases ht with ⟨ns, rfl, h⟩ | ⟨ts, rfl, h⟩
    · exact .b
    · exact .a (rv_row (left_abs h hb) (by rw [h.1]; omega))
/-- what the value holds: a row of such numbers -/
def goodB (c n b : Nat) : D → Bool
  | .obj c' [t] => decide (c' = c) && leftB n b t
  | _ => false
theorem goodB_a {c n b : Nat} {t : D} : goodB c n b (.obj c [t]) = leftB n b t := by
  show (decide (c = c) && _) = _
  rw [decide_eq_true rfl, Bool.true_and]
theorem goodB_b {c c2 n b : Nat} {t : D} (h : c2 ≠ c) : goodB c n b (.obj c2 [t]) = false := by
  show (decide (c2 = c) && _) = _
  rw [decide_eq_false h, Bool.false_and]
theorem x_good1 {w b : Nat} {R : List (List Int)} {row : List Int} {v : D} {rest : Sv} {U : RS → Prop} (hp : PenAt 0 1 S) (hR : RowsOk 3 w 64 R) (hw : w ≤ 3) (hb1 : 2 ≤ b) (hb : b ≤ 60) (hv : BV 100 4 5 v)
    (hU : ∀ S', Pn S S' → PZ rest [a0, a1, a2, some (.int (w : Nat)), some (.int (b : Nat)), some (tabD R), a6, some (rowD row), a8, a9, a10, a11, some v, some (.bl (judB 4 R.length b (fun xs => sameB (sumR xs R w) row b) v)), a14, a15, a16, a17, a18, a19] S' U) :
    PZ (sSeq (sAsg (gOne 13) (eAnd (eOp (fIsi Γ) (eSlot 12) (eC (.cls 4))) (eCall (CC (k + 3)) 64 3 (aCons (eUn (oFld Γ "numbers") (eSlot 12)) (aCons (eUn fLen (eSlot 5)) (aCons (eSlot 4) aNil))))))
      (sSeq (sAsg (gOne 13) (eAnd (eSlot 13) (eT (tCmp (cOwn Γ (CC (k + 3)) "__eq__" cEq) (eComp [14, 18] (iZip (eCall (CC (k + 3)) 59 3 (aCons (eUn (oFld Γ "numbers") (eSlot 12)) (aCons (eSlot 5) (aCons (eSlot 3) aNil)))) (eSlot 7)) (.many [14, 18]) (tCmp (cOwn Γ (CC (k + 3)) "__ne__" cNe) (eOp oMod (eOp oSub (eSlot 14) (eSlot 18)) (eSlot 4)) (eC (.int 0))) (eC (.int 1))) (eLst aNil))))) rest))
      [a0, a1, a2, some (.int (w : Nat)), some (.int (b : Nat)), some (tabD R), a6, some (rowD row), a8, a9, a10, a11, some v, a13, a14, a15, a16, a17, a18, a19] S U := by
  have big := sizeLine_big
  have hR1 := hR.1
  have stay : ∀ (S1 : Store) (e : Ev) (more : Sv), PZ more [a0, a1, a2, some (.int (w : Nat)), some (.int (b : Nat)), some (tabD R), a6, some (rowD row), a8, a9, a10, a11, some v, some (.bl false), a14, a15, a16, a17, a18, a19] S1 U → PZ (sSeq (sAsg (gOne 13) (eAnd (eSlot 13) e)) more) [a0, a1, a2, some (.int (w : Nat)), some (.int (b : Nat)), some (tabD R), a6, some (rowD row), a8, a9, a10, a11, some v, some (.bl false), a14, a15, a16, a17, a18, a19] S1 U := fun S1 e more h => by
    rw [PZ_seq, PZ_asg, PM_eAnd, PM_slot (i := 13) (d := .bl false) rfl, PM_tbl]
    simp only [Bool.false_eq_true, if_false]
    rw [PZ_one, SQ_nx]
    exact h
  rw [PZ_seq, PZ_asg, PM_eAnd, PM_eOp, PM_slot (i := 12) (d := v) rfl, PM_eC]
  cases hv with
  | non =>
    rw [PM_isiC rfl (by decide) cl_lt.2.2.2.1, PM_tbl]
    simp only [Bool.false_eq_true, if_false]
    rw [PZ_one, SQ_nx]
    exact stay _ _ _ (hU S (Pn.refl hp))
  | tup =>
    rw [PM_isiC rfl (by decide) cl_lt.2.2.2.1, PM_tbl]
    simp only [Bool.false_eq_true, if_false]
    rw [PZ_one, SQ_nx]
    exact stay _ _ _ (hU S (Pn.refl hp))
  | b =>
    have e0 : ((5 : Nat) == 4) = false := by decide
    rw [PM_isiO cl_lt.2.2.2.2 cl_lt.2.2.2.1, PM_tbl]
    simp only [e0, Bool.false_eq_true, if_false]
    rw [PZ_one, SQ_nx]
    have := hU S (Pn.refl hp)
    rw [judB_b (by decide)] at this
    exact stay _ _ _ this
  | @a t ht =>
    rw [judB_a] at hU
    rw [PM_isiO cl_lt.2.2.2.1 cl_lt.2.2.2.1, PM_tbl]
    simp only [beq_self_eq_true, if_true]
    rw [PM_eCall, PM_aCons, PM_eUn, PM_slot (i := 12) (d := .obj 4 [t]) rfl, PM_fldO (d := t) rfl, PM_aCons, PM_eUn, PM_slot (i := 5) (d := tabD R) rfl, PM_lenT, PM_aCons, PM_slot (i := 4) (d := .int (b : Nat)) rfl, PM_aNil, List.length_map]
    refine ⟨rfl, ?_⟩
    rw [PM_of (e_left (k := k) ht), PZ_one, SQ_nx]
    cases hl : leftB R.length b t with
    | false =>
      have := hU S (Pn.refl hp)
      rw [hl, Bool.false_and] at this
      exact stay _ _ _ this
    | true =>
      obtain ⟨xs, rfl, l1, l2⟩ := left_ints hl
      rw [hl, Bool.true_and, inD_row] at hU
      change PZ _ [a0, a1, a2, some (.int (w : Nat)), some (.int (b : Nat)), some (tabD R), a6, some (rowD row), a8, a9, a10, a11, some (.obj 4 [rowD xs]), some (.bl true), a14, a15, a16, a17, a18, a19] _ _
      rw [PZ_seq, PZ_asg, PM_eAnd, PM_slot (i := 13) (d := .bl true) rfl, PM_tbl]
      simp only [if_true]
      rw [PM_eT, PM_tCmp]
      obtain ⟨src, hit, ok⟩ := it_zip (S := S) (e := eCall (CC (k + 3)) 59 3 (aCons (eUn (oFld Γ "numbers") (eSlot 12)) (aCons (eSlot 5) (aCons (eSlot 3) aNil)))) (f := eSlot 7) (ρ := [a0, a1, a2, some (.int (w : Nat)), some (.int (b : Nat)), some (tabD R), a6, some (rowD row), a8, a9, a10, a11, some (.obj 4 [rowD xs]), some (.bl true), a14, a15, a16, a17, a18, a19]) (da := rowD (sumR xs R w)) (db := rowD row) (by
        rw [PM_eCall, PM_aCons, PM_eUn, PM_slot (i := 12) (d := .obj 4 [rowD xs]) rfl, PM_fldO (d := rowD xs) rfl, PM_aCons, PM_slot (i := 5) (d := tabD R) rfl, PM_aCons, PM_slot (i := 3) (d := .int (w : Nat)) rfl, PM_aNil]
        refine ⟨rfl, ?_⟩
        rw [PM_of (e_lsum (k := k + 2) (ns := xs) (R := R) seq_row seq_tab hR.2.1 (by omega) (fun m hm r hr z hz => mulOk_l (by have := l2 m hm; omega) (by have := l2 m hm; omega)))]
        exact ⟨rfl, rfl⟩) (slot_eq rfl) seq_row seq_row
      refine PM_fltC (fun d => !sameD b d) hit (by rw [zipL_length, List.length_map, sumR_len hR.2.1]; omega) (fun _ => ok _) (fun d hd => ?_) ?_
      · obtain ⟨x, y, rfl, _, _⟩ := zip_mem2 hd
        refine ⟨_, rfl, fun acc => ?_⟩
        change PM (tCmp (cOwn Γ (CC (k + 3)) "__ne__" cNe) (eOp oMod (eOp oSub (eSlot 14) (eSlot 18)) (eSlot 4)) (eC (.int 0)) [a0, a1, a2, some (.int (w : Nat)), some (.int (b : Nat)), some (tabD R), a6, some (rowD row), a8, a9, a10, a11, some (.obj 4 [rowD xs]), some (.bl true), some (.int x), a15, a16, a17, some (.int y), a19]) _ _
        rw [PM_tCmp, PM_eOp, PM_eOp, PM_slot (i := 14) (d := .int x) rfl, PM_slot (i := 18) (d := .int y) rfl, PM_sub, PM_slot (i := 4) (d := .int (b : Nat)) rfl, PM_mod]
        refine ⟨by omega, ?_⟩
        rw [PM_eC, own_int, PM_nei]
        exact ⟨rfl, rfl⟩
      · rw [PM_eLst, PM_aNil]
        refine ⟨Nat.zero_le _, ?_⟩
        have g9 : ∀ F : List D, ((S ++ [Cell.lst F]) ++ [Cell.lst []])[S.length]? = some (.lst F) := fun F => get_ap get_last
        rw [PM_ownL (g9 _), PM_eqNil (g9 _) get_last (toPs_const (p := .int 1) rfl _), List.isEmpty_map, filter_emptyL, zip_same, PZ_one, SQ_nx]
        exact hU _ ((Pn.ap hp _).app _)
theorem x_good2 {w b : Nat} {R : List (List Int)} {row : List Int} {v : D} {rest : Sv} {U : RS → Prop} (hp : PenAt 0 1 S) (hR : RowsOk 3 w 64 R) (hw : w ≤ 3) (hb1 : 2 ≤ b) (hb : b ≤ 60) (hv : BV 100 5 4 v)
    (hU : ∀ S', Pn S S' → PZ rest [a0, a1, a2, some (.int (w : Nat)), some (.int (b : Nat)), some (tabD R), a6, some (rowD row), a8, a9, a10, a11, some v, some (.bl (judB 5 w b (fun xs => (R.all fun r => mulB xs r b) && !mulB xs row b) v)), a14, a15, a16, a17, a18, a19] S' U) :
    PZ (sSeq (sAsg (gOne 13) (eAnd (eOp (fIsi Γ) (eSlot 12) (eC (.cls 5))) (eAnd (eCall (CC (k + 3)) 64 3 (aCons (eUn (oFld Γ "tops") (eSlot 12)) (aCons (eSlot 3) (aCons (eSlot 4) aNil)))) (eT (tCmp (cOwn Γ (CC (k + 3)) "__eq__" cEq) (eComp [16] (iSeq (eSlot 5)) (.one 16) (tNot (tV (eCall (CC (k + 3)) 63 3 (aCons (eUn (oFld Γ "tops") (eSlot 12)) (aCons (eSlot 16) (aCons (eSlot 4) aNil)))))) (eSlot 16)) (eLst aNil))))))
      (sSeq (sAsg (gOne 13) (eAnd (eSlot 13) (eT (tNot (tV (eCall (CC (k + 3)) 63 3 (aCons (eUn (oFld Γ "tops") (eSlot 12)) (aCons (eSlot 7) (aCons (eSlot 4) aNil))))))))) rest))
      [a0, a1, a2, some (.int (w : Nat)), some (.int (b : Nat)), some (tabD R), a6, some (rowD row), a8, a9, a10, a11, some v, a13, a14, a15, a16, a17, a18, a19] S U := by
  have big := sizeLine_big
  have hR1 := hR.1
  have stay : ∀ (S1 : Store) (e : Ev) (more : Sv), PZ more [a0, a1, a2, some (.int (w : Nat)), some (.int (b : Nat)), some (tabD R), a6, some (rowD row), a8, a9, a10, a11, some v, some (.bl false), a14, a15, a16, a17, a18, a19] S1 U → PZ (sSeq (sAsg (gOne 13) (eAnd (eSlot 13) e)) more) [a0, a1, a2, some (.int (w : Nat)), some (.int (b : Nat)), some (tabD R), a6, some (rowD row), a8, a9, a10, a11, some v, some (.bl false), a14, a15, a16, a17, a18, a19] S1 U := fun S1 e more h => by
    rw [PZ_seq, PZ_asg, PM_eAnd, PM_slot (i := 13) (d := .bl false) rfl, PM_tbl]
    simp only [Bool.false_eq_true, if_false]
    rw [PZ_one, SQ_nx]
    exact h
  rw [PZ_seq, PZ_asg, PM_eAnd, PM_eOp, PM_slot (i := 12) (d := v) rfl, PM_eC]
  cases hv with
  | non =>
    rw [PM_isiC rfl (by decide) cl_lt.2.2.2.2, PM_tbl]
    simp only [Bool.false_eq_true, if_false]
    rw [PZ_one, SQ_nx]
    exact stay _ _ _ (hU S (Pn.refl hp))
  | tup =>
    rw [PM_isiC rfl (by decide) cl_lt.2.2.2.2, PM_tbl]
    simp only [Bool.false_eq_true, if_false]
    rw [PZ_one, SQ_nx]
    exact stay _ _ _ (hU S (Pn.refl hp))
  | b =>
    have e0 : ((4 : Nat) == 5) = false := by decide
    rw [PM_isiO cl_lt.2.2.2.1 cl_lt.2.2.2.2, PM_tbl]
    simp only [e0, Bool.false_eq_true, if_false]
    rw [PZ_one, SQ_nx]
    have := hU S (Pn.refl hp)
    rw [judB_b (by decide)] at this
    exact stay _ _ _ this
  | @a t ht =>
    rw [judB_a] at hU
    rw [PM_isiO cl_lt.2.2.2.2 cl_lt.2.2.2.2, PM_tbl]
    simp only [beq_self_eq_true, if_true]
    rw [PM_eAnd, PM_eCall, PM_aCons, PM_eUn, PM_slot (i := 12) (d := .obj 5 [t]) rfl, PM_fldO (d := t) rfl, PM_aCons, PM_slot (i := 3) (d := .int (w : Nat)) rfl, PM_aCons, PM_slot (i := 4) (d := .int (b : Nat)) rfl, PM_aNil]
    refine ⟨rfl, ?_⟩
    rw [PM_of (e_left (k := k) ht), PM_tbl]
    cases hl : leftB w b t with
    | false =>
      simp only [Bool.false_eq_true, if_false]
      rw [PZ_one, SQ_nx]
      have := hU S (Pn.refl hp)
      rw [hl, Bool.false_and] at this
      exact stay _ _ _ this
    | true =>
      obtain ⟨xs, rfl, l1, l2⟩ := left_ints hl
      rw [hl, Bool.true_and, inD_row] at hU
      have hm : ∀ r : List Int, ∀ x ∈ xs, ∀ y ∈ r, mulOk x y := fun r x hx y hy => mulOk_l (by have := l2 x hx; omega) (by have := l2 x hx; omega)
      simp only [if_true]
      rw [PM_eT, PM_tCmp]
      refine PM_fltD (fun d => !mulD xs b d) (it_tup (slot_eq (d := tabD R) rfl)) (by rw [List.length_map]; omega) (fun _ => trivial) (fun d hd => ⟨_, rfl, fun acc => ⟨?_, slot_eq rfl⟩⟩) ?_
      · obtain ⟨r, hr, rfl⟩ := List.mem_map.mp hd
        change PM (tNot (tV (eCall (CC (k + 3)) 63 3 (aCons (eUn (oFld Γ "tops") (eSlot 12)) (aCons (eSlot 16) (aCons (eSlot 4) aNil))))) [a0, a1, a2, some (.int (w : Nat)), some (.int (b : Nat)), some (tabD R), a6, some (rowD row), a8, a9, a10, a11, some (.obj 5 [rowD xs]), a13, a14, a15, some (rowD r), a17, a18, a19]) _ _
        rw [PM_tNot, PM_tV, PM_eCall, PM_aCons, PM_eUn, PM_slot (i := 12) (d := .obj 5 [rowD xs]) rfl, PM_fldO (d := rowD xs) rfl, PM_aCons, PM_slot (i := 16) (d := rowD r) rfl, PM_aCons, PM_slot (i := 4) (d := .int (b : Nat)) rfl, PM_aNil]
        refine ⟨rfl, ?_⟩
        rw [PM_of (e_mult (k := k + 2) (by omega) (hm r) (by omega)), PM_tbl]
        exact ⟨by rw [mulD_row], rfl⟩
      · rw [PM_eLst, PM_aNil]
        refine ⟨Nat.zero_le _, ?_⟩
        rw [map_filter_row]
        have g9 : ∀ F : List (List Int), ((S ++ [Cell.lst (F.map rowD)]) ++ [Cell.lst []])[S.length]? = some (.lst (F.map rowD)) := fun F => get_ap get_last
        have hfil : (R.filter fun r => !mulD xs b (rowD r)) = R.filter fun r => !mulB xs r b := by
          congr 1
          funext r
          rw [mulD_row]
        rw [PM_ownL (g9 _), PM_eqNil (g9 _) get_last (toPs_rows _), List.isEmpty_map, hfil, filter_emptyL, PZ_one, SQ_nx]
        have pS := (Pn.ap hp [Cell.lst ((R.filter fun r => !mulB xs r b).map rowD)]).app [Cell.lst []]
        generalize (S ++ [Cell.lst ((R.filter fun r => !mulB xs r b).map rowD)]) ++ [Cell.lst []] = S9 at pS
        change PZ _ [a0, a1, a2, some (.int (w : Nat)), some (.int (b : Nat)), some (tabD R), a6, some (rowD row), a8, a9, a10, a11, some (.obj 5 [rowD xs]), some (.bl (R.all fun r => mulB xs r b)), a14, a15, a16, a17, a18, a19] _ _
        have hU9 := hU S9 pS
        cases ha : R.all fun r => mulB xs r b with
        | false =>
          rw [ha, Bool.false_and] at hU9
          exact stay _ _ _ hU9
        | true =>
          rw [ha, Bool.true_and] at hU9
          rw [PZ_seq, PZ_asg, PM_eAnd, PM_slot (i := 13) (d := .bl true) rfl, PM_tbl]
          simp only [if_true]
          rw [PM_eT, PM_tNot, PM_tV, PM_eCall, PM_aCons, PM_eUn, PM_slot (i := 12) (d := .obj 5 [rowD xs]) rfl, PM_fldO (d := rowD xs) rfl, PM_aCons, PM_slot (i := 7) (d := rowD row) rfl, PM_aCons, PM_slot (i := 4) (d := .int (b : Nat)) rfl, PM_aNil]
          refine ⟨rfl, ?_⟩
          rw [PM_of (e_mult (k := k + 2) (by omega) (hm row) (by omega)), PM_tbl, PZ_one, SQ_nx]
          exact hU9
end


section
variable {k : Nat} {S S' S2 : Store} {ρ : En} {Q : D → Store → Prop} {B : Bool → Store → Prop} {a0 a1 a2 a3 a4 a5 a6 a7 a8 a9 a10 a11 a12 a13 a14 a15 a16 a17 a18 a19 : Option D}
def mbD (x : Int) : D := .obj 4 [.tup [.int x]]
def nbD (x : Int) : D := .obj 5 [.tup [.int x]]
def eqP (x y : Int) : Bool := PyData.eqv (.tuple [.int x]) (.tuple [.int y])
theorem dep1 {x : Int} : (PyData.tuple [.int x]).depth ≤ 200 := by simp [PyData.depth, PyData.depthAll]
theorem mb_eq {x y : Int} : (CC (k + 1)).fn 18 [mbD x, mbD y] S = some (.ok (.bl (eqP x y)) S) := eq_one (k := k) cl_lt.2.2.2.1 rfl rfl rfl rfl rfl rfl rfl (p := .tuple [.int x]) (q := .tuple [.int y]) rfl rfl rfl rfl dep1
theorem nb_eq {x y : Int} : (CC (k + 1)).fn 21 [nbD x, nbD y] S = some (.ok (.bl (eqP x y)) S) := eq_one (k := k) cl_lt.2.2.2.2 rfl rfl rfl rfl rfl rfl rfl (p := .tuple [.int x]) (q := .tuple [.int y]) rfl rfl rfl rfl dep1
theorem mb_nb {x y : Int} : (CC (k + 1)).fn 18 [mbD x, nbD y] S = some (.ok (.bl false) S) := eq_oneX (k := k) (f := "numbers") cl_lt.2.2.2.1 cl_lt.2.2.2.2 (by decide) rfl rfl rfl rfl ⟨_, rfl⟩
theorem nb_tup {x : Int} {ys : List D} : (CC (k + 1)).fn 21 [nbD x, .tup ys] S = some (.ok (.bl false) S) := eq_oneT (k := k) cl_lt.2.2.2.2 rfl rfl rfl rfl ⟨_, rfl⟩
theorem mb_ne {x y : Int} : (CC (k + 2)).fn 19 [mbD x, mbD y] S = some (.ok (.bl (!eqP x y)) S) := ne_any (k := k) (j := 18) rfl rfl rfl rfl rfl rfl rfl mb_eq
theorem nb_ne {x y : Int} : (CC (k + 2)).fn 22 [nbD x, nbD y] S = some (.ok (.bl (!eqP x y)) S) := ne_any (k := k) (j := 21) rfl rfl rfl rfl rfl rfl rfl nb_eq
theorem x_tail {U : RS → Prop} (hU : ∀ S', U (.rt (.bl true) S')) :
    PZ (sSeq (sPar [14, 15] (aCons (eNew (CC (k + 5)) 4 1 (aCons (eLst (aCons (eC (.int 1)) aNil)) aNil)) (aCons (eNew (CC (k + 5)) 5 1 (aCons (eLst (aCons (eC (.int 1)) aNil)) aNil)) aNil)))
    (sSeq (sIf (tOr (tCmp cIsNot (eT (tCmp (cOwn Γ (CC (k + 5)) "__eq__" cEq) (eSlot 14) (eNew (CC (k + 5)) 4 1 (aCons (eTup (aCons (eC (.int 1)) aNil)) aNil)))) (eC (.bl true))) (tOr (tCmp cIsNot (eT (tCmp (cOwn Γ (CC (k + 5)) "__ne__" cNe) (eSlot 14) (eNew (CC (k + 5)) 4 1 (aCons (eTup (aCons (eC (.int 0)) aNil)) aNil)))) (eC (.bl true))) (tCmp cIsNot (eT (tCmp (cOwn Γ (CC (k + 5)) "__eq__" cEq) (eSlot 14) (eSlot 15))) (eC (.bl false))))) (sRet (eC (.bl false))) sNx)
    (sRet (eAnd (eT (tCmp cIs (eT (tCmp (cOwn Γ (CC (k + 5)) "__eq__" cEq) (eSlot 15) (eNew (CC (k + 5)) 5 1 (aCons (eTup (aCons (eC (.int 1)) aNil)) aNil)))) (eC (.bl true)))) (eAnd (eT (tCmp cIs (eT (tCmp (cOwn Γ (CC (k + 5)) "__ne__" cNe) (eSlot 15) (eNew (CC (k + 5)) 5 1 (aCons (eTup (aCons (eC (.int 2)) aNil)) aNil)))) (eC (.bl true)))) (eT (tCmp cIs (eT (tCmp (cOwn Γ (CC (k + 5)) "__eq__" cEq) (eSlot 15) (eTup (aCons (eC (.int 1)) aNil)))) (eC (.bl false))))))))) [a0, a1, a2, a3, a4, a5, a6, a7, a8, a9, a10, a11, a12, a13, a14, a15, a16, a17, a18, a19] S U := by
  have big := sizeLine_big
  have fzL : ∀ S : Store, Fz (S ++ [Cell.lst [.int 1]]) 1 (.ref S.length) (.tup [.int 1]) := fun S => .seq (.inr ⟨_, rfl, get_last⟩) rfl (by simp) fun i x v h1 h2 => by
    have := same_at h1 h2; subst this
    rw [List.mem_singleton.mp (List.mem_of_getElem? h1)]
    exact .sc trivial
  have nm : ∀ (x : Int) (ρ : En) (S : Store) (Q : D → Store → Prop), PM (eNew (CC (k + 5)) 4 1 (aCons (eTup (aCons (eC (.int x)) aNil)) aNil) ρ) S Q ↔ Q (mbD x) S := fun x ρ S Q => by
    have e : ∀ Q, PM ((CC (k + 5)).new 4 [.tup [.int x]]) S Q ↔ Q (mbD x) S := fun Q => PM_of (fn_eq (S2 := S) (n_madeby (k := k + 2) (nn := 1) (Fz.ints (xs := [x]) (by simp)) (by omega) ⟨rfl, rfl⟩))
    rw [PM_eNew, PM_aCons, PM_eTup, PM_aCons, PM_eC, PM_aNil, PM_aNil, e]
    exact ⟨fun h => h.2.2, fun h => ⟨by simp; omega, rfl, h⟩⟩
  have nn : ∀ (x : Int) (ρ : En) (S : Store) (Q : D → Store → Prop), PM (eNew (CC (k + 5)) 5 1 (aCons (eTup (aCons (eC (.int x)) aNil)) aNil) ρ) S Q ↔ Q (nbD x) S := fun x ρ S Q => by
    have e : ∀ Q, PM ((CC (k + 5)).new 5 [.tup [.int x]]) S Q ↔ Q (nbD x) S := fun Q => PM_of (fn_eq (S2 := S) (n_notmadeby (k := k + 2) (nn := 1) (Fz.ints (xs := [x]) (by simp)) (by omega) ⟨rfl, rfl⟩))
    rw [PM_eNew, PM_aCons, PM_eTup, PM_aCons, PM_eC, PM_aNil, PM_aNil, e]
    exact ⟨fun h => h.2.2, fun h => ⟨by simp; omega, rfl, h⟩⟩
  rw [PZ_seq, PZ_par, PM_aCons, PM_eNew, PM_aCons, PM_eLst, PM_aCons, PM_eC, PM_aNil]
  refine ⟨by simp; omega, ?_⟩
  rw [PM_aNil]
  refine ⟨rfl, n_madeby (k := k + 2) (fzL S) (by omega) ?_⟩
  rw [PM_aCons, PM_eNew, PM_aCons, PM_eLst, PM_aCons, PM_eC, PM_aNil]
  refine ⟨by simp; omega, ?_⟩
  rw [PM_aNil]
  refine ⟨rfl, n_notmadeby (k := k + 2) (fzL _) (by omega) ?_⟩
  rw [PM_aNil]
  refine ⟨rfl, ?_⟩
  rw [SQ_nx]
  generalize (S ++ [Cell.lst [D.int 1]]) ++ [Cell.lst [D.int 1]] = S1
  change PZ _ [a0, a1, a2, a3, a4, a5, a6, a7, a8, a9, a10, a11, a12, a13, some (mbD 1), some (nbD 1), a16, a17, a18, a19] _ _
  have t1 : eqP 1 1 = true := by decide
  have t2 : eqP 1 0 = false := by decide
  have t3 : eqP 1 2 = false := by decide
  have o1 : ∀ (B : Bool → Store → Prop), PM (cOwn Γ (CC (k + 5)) "__eq__" cEq (mbD 1) (mbD 1)) S1 B ↔ B true S1 := fun B => PM_ownO (c := 4) (xs := [.tup [.int 1]]) rfl rfl (by rw [← t1]; exact mb_eq (k := k + 4))
  have o2 : ∀ (B : Bool → Store → Prop), PM (cOwn Γ (CC (k + 5)) "__ne__" cNe (mbD 1) (mbD 0)) S1 B ↔ B true S1 := fun B => PM_ownO (c := 4) (xs := [.tup [.int 1]]) rfl rfl (by have := mb_ne (k := k + 3) (S := S1) (x := 1) (y := 0); rw [t2] at this; exact this)
  have o3 : ∀ (B : Bool → Store → Prop), PM (cOwn Γ (CC (k + 5)) "__eq__" cEq (mbD 1) (nbD 1)) S1 B ↔ B false S1 := fun B => PM_ownO (c := 4) (xs := [.tup [.int 1]]) rfl rfl (mb_nb (k := k + 4))
  have o4 : ∀ (B : Bool → Store → Prop), PM (cOwn Γ (CC (k + 5)) "__eq__" cEq (nbD 1) (nbD 1)) S1 B ↔ B true S1 := fun B => PM_ownO (c := 5) (xs := [.tup [.int 1]]) rfl rfl (by rw [← t1]; exact nb_eq (k := k + 4))
  have o5 : ∀ (B : Bool → Store → Prop), PM (cOwn Γ (CC (k + 5)) "__ne__" cNe (nbD 1) (nbD 2)) S1 B ↔ B true S1 := fun B => PM_ownO (c := 5) (xs := [.tup [.int 1]]) rfl rfl (by have := nb_ne (k := k + 3) (S := S1) (x := 1) (y := 2); rw [t3] at this; exact this)
  have o6 : ∀ (B : Bool → Store → Prop), PM (cOwn Γ (CC (k + 5)) "__eq__" cEq (nbD 1) (.tup [.int 1])) S1 B ↔ B false S1 := fun B => PM_ownO (c := 5) (xs := [.tup [.int 1]]) rfl rfl (nb_tup (k := k + 4))
  have s14 : ∀ (Q : D → Store → Prop), PM (eSlot 14 [a0, a1, a2, a3, a4, a5, a6, a7, a8, a9, a10, a11, a12, a13, some (mbD 1), some (nbD 1), a16, a17, a18, a19]) S1 Q ↔ Q (mbD 1) S1 := fun Q => PM_slot rfl
  have s15 : ∀ (Q : D → Store → Prop), PM (eSlot 15 [a0, a1, a2, a3, a4, a5, a6, a7, a8, a9, a10, a11, a12, a13, some (mbD 1), some (nbD 1), a16, a17, a18, a19]) S1 Q ↔ Q (nbD 1) S1 := fun Q => PM_slot rfl
  rw [PZ_seq, PZ_if, PM_tOr, PM_tCmp, PM_eT, PM_tCmp, s14, nm, o1, PM_eC, PM_isnot, PM_isBl, isB1]
  simp only [Bool.not_true, Bool.false_eq_true, if_false]
  rw [PM_tOr, PM_tCmp, PM_eT, PM_tCmp, s14, nm, o2, PM_eC, PM_isnot, PM_isBl, isB1]
  simp only [Bool.not_true, Bool.false_eq_true, if_false]
  rw [PM_tCmp, PM_eT, PM_tCmp, s14, s15, o3, PM_eC, PM_isnot, PM_isBl, isB2]
  simp only [Bool.not_true, Bool.false_eq_true, if_false]
  rw [PZ_nx, SQ_nx, PZ_ret, PM_eAnd, PM_eT, PM_tCmp, PM_eT, PM_tCmp, s15, nn, o4, PM_eC, PM_isBl, isB1, PM_tbl]
  simp only [if_true]
  rw [PM_eAnd, PM_eT, PM_tCmp, PM_eT, PM_tCmp, s15, nn, o5, PM_eC, PM_isBl, isB1, PM_tbl]
  simp only [if_true]
  rw [PM_eT, PM_tCmp, PM_eT, PM_tCmp, s15, PM_eTup, PM_aCons, PM_eC, PM_aNil]
  refine ⟨by simp; omega, ?_⟩
  rw [o6, PM_eC, PM_isBl, isB2]
  exact hU _
theorem e_law {ns : List Int} : PM ((CC (k + 9)).fn 65 [.flst (ns.map .int)]) [] fun d _ => d = .bl true := by
  refine PM_fnq rfl rfl rfl ?_
  unfold b_law
  have big := sizeLine_big
  change PZ _ [some (.flst (ns.map .int)), none, none, none, none, none, none, none, none, none, none, none, none, none, none, none, none, none, none, none] _ _
  rw [PZ_seq, PZ_asg, PM_eCall, PM_aCons, PM_slot (i := 0) (d := .flst (ns.map .int)) rfl, PM_aNil]
  refine ⟨rfl, (e_pen (k := k + 7) (ns := ns)).imp ?_⟩
  rintro d S1 ⟨rfl, hp⟩
  rw [PZ_one, SQ_nx, PZ_seq, PZ_for, PM_rng1, PM_eC]
  refine ⟨3, rfl, by decide, ?_⟩
  refine PZ_go (fun _ ρ S' => PenAt 0 1 S' ∧ ∃ a0 a1 a2 a3 a4 a5 a6 a7 a8 a9 a10 a11 a12 a13 a14 a15 a16 a17 a18 a19 : Option D, ρ = [a0, some (.ref 0), a2, a3, a4, a5, a6, a7, a8, a9, a10, a11, a12, a13, a14, a15, a16, a17, a18, a19]) ⟨hp, some (.flst (ns.map .int)), none, none, none, none, none, none, none, none, none, none, none, none, none, none, none, none, none, none, none, rfl⟩ ?_ ?_
  · rintro j d ρ S2 hj ⟨hp2, a0, a1, a2, a3, a4, a5, a6, a7, a8, a9, a10, a11, a12, a13, a14, a15, a16, a17, a18, a19, rfl⟩
    refine ⟨trivial, _, rfl, ?_⟩
    change PZ _ [a0, some (.ref 0), some d, a3, a4, a5, a6, a7, a8, a9, a10, a11, a12, a13, a14, a15, a16, a17, a18, a19] _ _
    rw [PZ_seq, PZ_asg, PM_eTup, PM_aCons, PM_eOp, PM_eC]
    refine (drawI (k := k + 7) (i := 1) (m := 3) hp2 (by rw [PM_eC]; exact ⟨rfl, rfl⟩) (by omega) (by omega) rfl).imp ?_
    rintro d1 S3 ⟨⟨z, rfl, z1, z2⟩, p3⟩
    obtain ⟨w0, rfl⟩ := Int.eq_ofNat_of_zero_le z1
    have ew : (1 : Int) + (w0 : Int) = ((1 + w0 : Nat) : Int) := by omega
    rw [PM_add, ew, PM_aCons, PM_eOp, PM_eC]
    refine (drawI (k := k + 7) (i := 1) (m := 14) p3.1 (by rw [PM_eC]; exact ⟨rfl, rfl⟩) (by omega) (by omega) rfl).imp ?_
    rintro d1 S4 ⟨⟨z, rfl, y1, y2⟩, p4⟩
    obtain ⟨b0, rfl⟩ := Int.eq_ofNat_of_zero_le y1
    have eb : (2 : Int) + (b0 : Int) = ((2 + b0 : Nat) : Int) := by omega
    rw [PM_add, eb, PM_aNil]
    refine ⟨by simp; omega, ?_⟩
    have w1 : 1 ≤ 1 + w0 := by omega
    have w3 : 1 + w0 ≤ 3 := by omega
    have b1 : 2 ≤ 2 + b0 := by omega
    have b60 : 2 + b0 ≤ 60 := by omega
    generalize 1 + w0 = w at w1 w3
    generalize 2 + b0 = b at b1 b60
    rw [PZ_tup rfl, PZ_allC, PZ_one, SQ_nx, PZ_allC, PZ_one, SQ_nx, PZ_allN, SQ_nx]
    change PZ _ [a0, some (.ref 0), some d, some (.int (w : Nat)), some (.int (b : Nat)), a5, a6, a7, a8, a9, a10, a11, a12, a13, a14, a15, a16, a17, a18, a19] _ _
    rw [PZ_seq, PZ_asg, PM_eCall, PM_aCons, PM_slot (i := 1) (d := .ref 0) rfl, PM_aCons, PM_slot (i := 3) (d := .int (w : Nat)) rfl, PM_aCons, PM_eC, PM_aCons, PM_eC, PM_aNil]
    refine ⟨rfl, (e_drows (k := k + 5) (most := 3) (size := 9) p4.1 (by omega) (by omega) (by omega) (by omega)).imp ?_⟩
    rintro d1 S5 ⟨p5, R, rfl, hR0⟩
    have hR : RowsOk 3 w 64 R := ⟨hR0.1, hR0.2.1, fun r hr x hx => Nat.le_trans (hR0.2.2 r hr x hx) (by omega)⟩
    have hR1 := hR.1
    rw [PZ_one, SQ_nx]
    change PZ _ [a0, some (.ref 0), some d, some (.int (w : Nat)), some (.int (b : Nat)), some (tabD R), a6, a7, a8, a9, a10, a11, a12, a13, a14, a15, a16, a17, a18, a19] _ _
    rw [PZ_seq, PZ_asg, PM_eNew, PM_aCons, PM_slot (i := 3) (d := .int (w : Nat)) rfl, PM_aCons, PM_slot (i := 5) (d := tabD R) rfl, PM_aNil]
    refine ⟨rfl, ?_⟩
    rw [PM_of (n_list (k := k + 2) hR (by omega) w1 (by omega)), PZ_one, SQ_nx]
    change PZ _ [a0, some (.ref 0), some d, some (.int (w : Nat)), some (.int (b : Nat)), some (tabD R), some (listD w R), a7, a8, a9, a10, a11, a12, a13, a14, a15, a16, a17, a18, a19] _ _
    -- row
    rw [PZ_seq, PZ_asg, PM_eCall, PM_aCons, PM_slot (i := 1) (d := .ref 0) rfl, PM_aCons, PM_eLst, PM_aCons, PM_eCall, PM_aCons, PM_slot (i := 1) (d := .ref 0) rfl, PM_aCons, PM_slot (i := 3) (d := .int (w : Nat)) rfl, PM_aCons, PM_eC, PM_aNil]
    refine ⟨rfl, (e_drow (k := k + 6) (w := w) (size := 12) p5.1 (by omega) (by omega)).imp ?_⟩
    rintro d1 S6 ⟨p6, r1, rfl, g1, g2⟩
    rw [PM_aCons, PM_eCall, PM_aCons, PM_eCall, PM_aCons, PM_slot (i := 1) (d := .ref 0) rfl, PM_aCons, PM_eUn, PM_slot (i := 5) (d := tabD R) rfl, PM_lenT, PM_aCons, PM_eC, PM_aNil, List.length_map]
    refine ⟨rfl, (e_drow (k := k + 6) (w := R.length) (size := 4) p6.1 (by omega) (by omega)).imp ?_⟩
    rintro d1 S7 ⟨p7, ns, rfl, n1, n2⟩
    rw [PM_aCons, PM_slot (i := 5) (d := tabD R) rfl, PM_aCons, PM_slot (i := 3) (d := .int (w : Nat)) rfl, PM_aNil]
    refine ⟨rfl, ?_⟩
    rw [PM_of (e_lsum (k := k + 7) (ns := ns) (R := R) seq_row seq_tab hR.2.1 (by omega) fun m hm row hr z hz => mulOk_l (by have := n2 m hm; omega) (by have := n2 m hm; omega)), PM_aNil]
    refine ⟨by simp; omega, ?_⟩
    rw [PM_aNil]
    have hrow : ∀ x ∈ [rowD r1, rowD (sumR ns R w)], ∃ row : List Int, x = rowD row ∧ row.length = w ∧ Bdd 1000 row := fun x hx => by
      simp only [List.mem_cons, List.not_mem_nil, or_false] at hx
      rcases hx with rfl | rfl
      · exact ⟨r1, rfl, g1, fun x hx => Nat.le_trans (g2 x hx) (by omega)⟩
      · refine ⟨_, rfl, sumR_len hR.2.1, sum_abs2 n2 hR.2.2 ?_⟩
        rw [n1]
        omega
    have hne : ∀ X : Store, PenAt 0 1 X → X.length ≠ 0 := fun X h => by have := h.lt; omega
    refine ⟨rfl, (e_pick (k := k + 6) (Pn.ap p7.1 [Cell.lst [rowD r1, rowD (sumR ns R w)]]).1 get_last (hne _ p7.1) (by simp) (by simp)).imp ?_⟩
    rintro d1 S8 ⟨hd, p8⟩
    obtain ⟨row, rfl, hrl, hrb⟩ := hrow d1 hd
    have q8 := p8.1
    rw [PZ_one, SQ_nx]
    change PZ _ [a0, some (.ref 0), some d, some (.int (w : Nat)), some (.int (b : Nat)), some (tabD R), some (listD w R), some (rowD row), a8, a9, a10, a11, a12, a13, a14, a15, a16, a17, a18, a19] _ _
    rw [PZ_seq, PZ_asg, PM_eCall, PM_aCons, PM_slot (i := 6) (d := listD w R) rfl, PM_aCons, PM_slot (i := 7) (d := rowD row) rfl, PM_aCons, PM_slot (i := 4) (d := .int (b : Nat)) rfl, PM_aNil]
    refine ⟨rfl, (m_mbon (k := k) hR w3 b1 b60 hrl hrb).imp ?_⟩
    rintro told S9 ⟨rfl, htold⟩
    rw [PZ_one, SQ_nx]
    change PZ _ [a0, some (.ref 0), some d, some (.int (w : Nat)), some (.int (b : Nat)), some (tabD R), some (listD w R), some (rowD row), some told, a9, a10, a11, a12, a13, a14, a15, a16, a17, a18, a19] _ _
    rw [PZ_for, PM_rng1, PM_eC]
    refine ⟨6, rfl, by decide, ?_⟩
    refine PZ_go (fun _ ρ S' => PenAt 0 1 S' ∧ ∃ a0 a1 a2 a3 a4 a5 a6 a7 a8 a9 a10 a11 a12 a13 a14 a15 a16 a17 a18 a19 : Option D, ρ = [a0, some (.ref 0), a2, some (.int (w : Nat)), some (.int (b : Nat)), some (tabD R), some (listD w R), some (rowD row), some told, a9, a10, a11, a12, a13, a14, a15, a16, a17, a18, a19]) ⟨q8, a0, a1, _, a3, a4, a5, a6, a7, a8, a9, a10, a11, a12, a13, a14, a15, a16, a17, a18, a19, rfl⟩ ?_ ?_
    · clear hj a0 a1 a2 a3 a4 a5 a6 a7 a8 a9 a10 a11 a12 a13 a14 a15 a16 a17 a18 a19
      rintro j d9 ρ T0 hj ⟨q0, a0, a1, a2, a3, a4, a5, a6, a7, a8, a9, a10, a11, a12, a13, a14, a15, a16, a17, a18, a19, rfl⟩
      refine ⟨trivial, _, rfl, ?_⟩
      change PZ _ [a0, some (.ref 0), a2, some (.int (w : Nat)), some (.int (b : Nat)), some (tabD R), some (listD w R), some (rowD row), some told, some d9, a10, a11, a12, a13, a14, a15, a16, a17, a18, a19] _ _
      rw [PZ_seq, PZ_asg]
      refine (x_own1 (n := 0) (k := k + 7) q0 htold hR1 b1 b60).imp ?_
      rintro d1 T1 ⟨p1, xs, rfl, hxs⟩
      have q1 := p1.1
      rw [PZ_one, SQ_nx]
      change PZ _ [a0, some (.ref 0), a2, some (.int (w : Nat)), some (.int (b : Nat)), some (tabD R), some (listD w R), some (rowD row), some told, some d9, some (rowD xs), a11, a12, a13, a14, a15, a16, a17, a18, a19] _ _
      rw [PZ_seq, PZ_asg]
      refine (x_every1 q1 hxs hR1 b1 b60).imp ?_
      rintro d1 T2 ⟨p2, e1, rfl, _, hs1⟩
      have q2 := p2.1
      rw [PZ_one, SQ_nx]
      change PZ _ [a0, some (.ref 0), a2, some (.int (w : Nat)), some (.int (b : Nat)), some (tabD R), some (listD w R), some (rowD row), some told, some d9, some (rowD xs), some (.ref e1), a12, a13, a14, a15, a16, a17, a18, a19] _ _
      rw [PZ_seq, PZ_asg]
      refine (x_v1 (k := k + 5) q2 hs1 (by omega) (by omega) htold hR1 w3 b60 ⟨_, rfl⟩).imp ?_
      rintro v T3 ⟨p3, hv⟩
      have q3 := p3.1
      rw [PZ_one, SQ_nx]
      change PZ _ [a0, some (.ref 0), a2, some (.int (w : Nat)), some (.int (b : Nat)), some (tabD R), some (listD w R), some (rowD row), some told, some d9, some (rowD xs), some (.ref e1), some v, a13, a14, a15, a16, a17, a18, a19] _ _
      refine x_good1 (k := k + 5) q3 hR w3 b1 b60 hv fun T4 p4 => ?_
      have q4 := p4.1
      rw [PZ_seq]
      refine x_ifA (k := k + 7) (ds := [listD w R, rowD row, .int (b : Nat), v]) rfl (fun Q => by rw [PM_aCons, PM_slot (i := 6) (d := listD w R) rfl, PM_aCons, PM_slot (i := 7) (d := rowD row) rfl, PM_aCons, PM_slot (i := 4) (d := .int (b : Nat)) rfl, PM_aCons, PM_slot (i := 12) (d := v) rfl, PM_aNil]) rfl rfl (m_mbh (k := k + 3) (kb := 100) rfl hR w3 b1 b60 hrl hv) ?_
      rw [PZ_seq, PZ_asg]
      refine (x_own2 (k := k + 7) q4 htold w3 b1 b60).imp ?_
      rintro d1 T5 ⟨p5, ys, rfl, hys⟩
      have q5 := p5.1
      rw [PZ_one, SQ_nx]
      change PZ _ [a0, some (.ref 0), a2, some (.int (w : Nat)), some (.int (b : Nat)), some (tabD R), some (listD w R), some (rowD row), some told, some d9, some (rowD ys), some (.ref e1), some v, some (.bl (judB 4 R.length b (fun xs => sameB (sumR xs R w) row b) v)), a14, a15, a16, a17, a18, a19] _ _
      rw [PZ_seq, PZ_asg]
      refine (x_every2 q5 hys w3 b1 b60).imp ?_
      rintro d1 T6 ⟨p6, e2, rfl, _, hs2⟩
      have q6 := p6.1
      rw [PZ_one, SQ_nx]
      change PZ _ [a0, some (.ref 0), a2, some (.int (w : Nat)), some (.int (b : Nat)), some (tabD R), some (listD w R), some (rowD row), some told, some d9, some (rowD ys), some (.ref e2), some v, some (.bl (judB 4 R.length b (fun xs => sameB (sumR xs R w) row b) v)), a14, a15, a16, a17, a18, a19] _ _
      rw [PZ_seq, PZ_asg]
      refine (x_every3 q6 hys w3 w1 w3 b1 b60 hs2).imp ?_
      rintro d1 T7 ⟨p7, e3, rfl, _, hs3⟩
      have q7 := p7.1
      rw [PZ_one, SQ_nx]
      change PZ _ [a0, some (.ref 0), a2, some (.int (w : Nat)), some (.int (b : Nat)), some (tabD R), some (listD w R), some (rowD row), some told, some d9, some (rowD ys), some (.ref e3), some v, some (.bl (judB 4 R.length b (fun xs => sameB (sumR xs R w) row b) v)), a14, a15, a16, a17, a18, a19] _ _
      rw [PZ_seq, PZ_asg]
      refine (x_v2 (k := k + 5) q7 hs3 (by omega) (by omega) htold hR1 w3 b60 ⟨_, rfl⟩).imp ?_
      rintro v2 T8 ⟨p8, hv2⟩
      have q8 := p8.1
      rw [PZ_one, SQ_nx]
      change PZ _ [a0, some (.ref 0), a2, some (.int (w : Nat)), some (.int (b : Nat)), some (tabD R), some (listD w R), some (rowD row), some told, some d9, some (rowD ys), some (.ref e3), some v2, some (.bl (judB 4 R.length b (fun xs => sameB (sumR xs R w) row b) v)), a14, a15, a16, a17, a18, a19] _ _
      refine x_good2 (k := k + 5) q8 hR w3 b1 b60 hv2 fun T9 p9 => ?_
      have q9 := p9.1
      have fin := x_ifA (k := k + 7) (K := fun ρ S' => PenAt 0 1 S' ∧ ∃ a0 a1 a2 a3 a4 a5 a6 a7 a8 a9 a10 a11 a12 a13 a14 a15 a16 a17 a18 a19 : Option D, ρ = [a0, some (.ref 0), a2, some (.int (w : Nat)), some (.int (b : Nat)), some (tabD R), some (listD w R), some (rowD row), some told, a9, a10, a11, a12, a13, a14, a15, a16, a17, a18, a19]) (C := CC (k + 8)) (m := 13) (n := 4) (f := 52) (ds := [listD w R, rowD row, .int (b : Nat), v2]) (U := fun r => False) (S := T9)
        (av := aCons (eSlot 6) (aCons (eSlot 7) (aCons (eSlot 4) (aCons (eSlot 12) aNil))))
        (ρ := [a0, some (.ref 0), a2, some (.int (w : Nat)), some (.int (b : Nat)), some (tabD R), some (listD w R), some (rowD row), some told, some d9, some (rowD ys), some (.ref e3), some v2, some (.bl (judB 5 w b (fun xs => (R.all fun r => mulB xs r b) && !mulB xs row b) v2)), a14, a15, a16, a17, a18, a19]) rfl
        (fun Q => by rw [PM_aCons, PM_slot (i := 6) (d := listD w R) rfl, PM_aCons, PM_slot (i := 7) (d := rowD row) rfl, PM_aCons, PM_slot (i := 4) (d := .int (b : Nat)) rfl, PM_aCons, PM_slot (i := 12) (d := v2) rfl, PM_aNil]) rfl rfl (m_nbh (k := k + 3) (kb := 100) rfl hR w3 b1 b60 hrl hv2) ⟨q9, a0, a1, a2, a3, a4, a5, a6, a7, a8, _, _, _, _, _, a14, a15, a16, a17, a18, a19, rfl⟩
      refine fin.imp fun r h => ?_
      cases r with
      | nx ρ S9 => exact h
      | _ => exact h.elim
    · rintro ρ S9 ⟨q9, a0, a1, a2, a3, a4, a5, a6, a7, a8, a9, a10, a11, a12, a13, a14, a15, a16, a17, a18, a19, rfl⟩
      refine ⟨trivial, ?_⟩
      rw [TQ_nx]
      exact ⟨q9, a0, a1, a2, _, _, _, _, _, _, a9, a10, a11, a12, a13, a14, a15, a16, a17, a18, a19, rfl⟩
  · rintro ρ S9 ⟨q9, a0, a1, a2, a3, a4, a5, a6, a7, a8, a9, a10, a11, a12, a13, a14, a15, a16, a17, a18, a19, rfl⟩
    refine ⟨trivial, ?_⟩
    rw [SQ_nx]
    exact x_tail (k := k + 3) fun S' => by rw [FQ_rt]
theorem law_ok (ns : List Int) : ∃ S', (CC 40).fn 65 [.flst (ns.map .int)] [] = some (.ok (.bl true) S') := by
  obtain ⟨d, S', e, rfl⟩ := e_law (k := 31) (ns := ns)
  exact ⟨S', e⟩
end


end MP
theorem PySem.Challenge.cw_sumsmade_k76_by_a_number_bent_holds : PySem.Challenge.rw_sumsmade_k76_by_a_number_bent.Holds := by
  exact MP.holds fun ns _ _ => MP.law_ok ns
