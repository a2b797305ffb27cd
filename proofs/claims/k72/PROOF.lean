import PyProof.Rows.All
import Wide.All
import OpenK.AllK
import Wide.FinOn
import HandS.ForSpec
import HandS.ForMost
import HandS.Flow
import HandS.CallSlots
import HandS.Style
import HandS.TupAny
import HandS.IsInst
import HandS.Wide
import HandS.HeadWalk
import HandS.Zip0
import HandS.Zip
import HandS.Walk
import HandS.Small
import HandS.Defaults
import HandS.Head0
import HandS.Head1
import HandS.Head2
import HandS.HeadEnd
import HandS.HeadHook1
import HandS.HeadHook2
import HandS.HeadHook3
import HandS.HeadHook4
import HandS.Words
import HandS.WordsExc
import Lean
import PySem.Challenge.RW_sumsmade_k72_leftovers_bent
set_option Elab.async false
set_option linter.all false
set_option maxRecDepth 1000000
set_option maxHeartbeats 0
/-! MPA: values, store, the monad, the simulation relation. -/
namespace MP
open PySem PySem.Spec PyProof.Rows L2
abbrev St := L2.St

/-- values of the small interpreter: tuples, frozen lists and frozen instances are values -/
inductive D where
  | non | bl (b : Bool) | int (i : Int) | str (x : Str)
  | tup (xs : List D) | flst (xs : List D) | obj (c : Nat) (xs : List D)
  | ref (i : Nat) | fn (f : Nat) | cls (c : Nat) | ty (n : String)
  deriving Inhabited

/-- what stands in the store -/
inductive Cell where
  | lst (xs : List D)
  | dct (kvs : List (Key × D))
  | obj (c : Nat) (fs : List (Str × D))

abbrev Store := List Cell
/-- an own exception: its class, its fields -/
structure Exn where
  c : Nat
  fs : List (Str × D)
inductive R (α : Type) where
  | ok (a : α) (S : Store)
  | ex (e : Exn) (S : Store)
def M (α : Type) : Type := Store → Option (R α)
namespace M
variable {α β : Type}
def ret (a : α) : M α := fun S => some (.ok a S)
def bind (x : M α) (f : α → M β) : M β := fun S => match x S with
  | some (.ok a S') => f a S'
  | some (.ex e S') => some (.ex e S')
  | none => none
def stuck : M α := fun _ => none
def raise (e : Exn) : M α := fun S => some (.ex e S)
def guard (p : Prop) [Decidable p] (x : M α) : M α := if p then x else stuck
theorem bind_ok {x : M α} {f : α → M β} {S S' : Store} {a : α} (h : x S = some (.ok a S')) : bind x f S = f a S' := by unfold bind; rw [h]
theorem bind_ex {x : M α} {f : α → M β} {S S' : Store} {e : Exn} (h : x S = some (.ex e S')) : bind x f S = some (.ex e S') := by unfold bind; rw [h]
theorem ret_bind {f : α → M β} {a : α} : bind (ret a) f = f a := rfl
theorem bind_assoc {γ : Type} (x : M α) (f : α → M β) (g : β → M γ) : bind (bind x f) g = bind x fun a => bind (f a) g := by
  funext S
  unfold bind
  cases x S with
  | none => rfl
  | some r => cases r <;> rfl
end M

/-- the world: the written part, where functions and classes stand, the fields of frozen instances -/
structure GW where
  K : PySem.W.Frag
  fnA : Nat → Addr
  clA : Nat → Addr
  fields : Nat → List Str

/-- a tuple: one that was made, or a constant of the text -/
def TqT (K : PySem.W.Frag) (F : Hp) (a : Addr) (xs : List V) : Prop :=
  F a = some (.tup xs) ∨ ∃ (o : Obj) (its : Array Value) (n : Nat), K.lookup a = some o ∧ o.cls = .type "tuple" ∧ o.data = .seq its n ∧ its.size ≤ sizeLine ∧ Vals xs its.toList
theorem TqT.sq {K : PySem.W.Frag} {F H : Hp} {a : Addr} {xs : List V} (h : TqT K F a xs) (sub : ∀ a o, F a = some o → H a = some o) : SqT K H a xs := by
  rcases h with h | h
  · exact .inl (.inl (sub _ _ h))
  · exact .inr h
mutual
def relD (G : GW) (m : List Addr) (F : Hp) : D → V → Prop
  | .non, v => v = .non
  | .bl b, v => v = .bl b
  | .int i, v => v = .int i
  | .str x, v => v = .str x
  | .tup xs, v => ∃ a vs, v = .ref a ∧ TqT G.K F a vs ∧ relDs G m F xs vs
  | .flst xs, v => ∃ a vs, v = .ref a ∧ SqL G.K F a vs ∧ relDs G m F xs vs
  | .obj c xs, v => ∃ a dx fs, v = .ref a ∧ F a = some (.ins (G.clA c) dx fs) ∧ fs.map (·.1) = G.fields c ∧ relDs G m F xs (fs.map (·.2))
  | .ref i, v => ∃ a, v = .ref a ∧ m[i]? = some a
  | .fn f, v => v = .ref (G.fnA f)
  | .cls c, v => v = .ref (G.clA c)
  | .ty n, v => v = .ty n
def relDs (G : GW) (m : List Addr) (F : Hp) : List D → List V → Prop
  | [], vs => vs = []
  | d :: ds, vs => ∃ v r, vs = v :: r ∧ relD G m F d v ∧ relDs G m F ds r
end

/-- the world grows -/
structure Ext (m : List Addr) (F : Hp) (m' : List Addr) (F' : Hp) : Prop where
  pre : ∀ (i : Nat) a, m[i]? = some a → m'[i]? = some a
  sub : ∀ a o, F a = some o → F' a = some o
theorem Ext.refl {m : List Addr} {F : Hp} : Ext m F m F := ⟨fun _ _ h => h, fun _ _ h => h⟩
theorem Ext.trans {m m1 m2 : List Addr} {F F1 F2 : Hp} (a : Ext m F m1 F1) (b : Ext m1 F1 m2 F2) : Ext m F m2 F2 := ⟨fun i x h => b.pre i x (a.pre i x h), fun x o h => b.sub x o (a.sub x o h)⟩
theorem Ext.rd {m m' : List Addr} {F F' : Hp} (e : Ext m F m' F') {a : Addr} {u : HO} (h : Rd F a u) : Rd F' a u := by
  rcases h with h | ⟨o, h⟩
  · exact .inl (e.sub _ _ h)
  · exact .inr ⟨o, e.sub _ _ h⟩
theorem Ext.sqT {K : PySem.W.Frag} {m m' : List Addr} {F F' : Hp} (e : Ext m F m' F') {a : Addr} {xs : List V} (h : TqT K F a xs) : TqT K F' a xs := by
  rcases h with h | h
  · exact .inl (e.sub _ _ h)
  · exact .inr h
theorem Ext.sqL {K : PySem.W.Frag} {m m' : List Addr} {F F' : Hp} (e : Ext m F m' F') {a : Addr} {xs : List V} (h : SqL K F a xs) : SqL K F' a xs := by
  rcases h with h | h
  · exact .inl (e.rd h)
  · exact .inr h
mutual
theorem relD.mono {G : GW} {m m' : List Addr} {F F' : Hp} (e : Ext m F m' F') : ∀ {d : D} {v : V}, relD G m F d v → relD G m' F' d v
  | .non, _, h => h
  | .bl _, _, h => h
  | .int _, _, h => h
  | .str _, _, h => h
  | .tup _, _, ⟨a, vs, h1, h2, h3⟩ => ⟨a, vs, h1, e.sqT h2, relDs.mono e h3⟩
  | .flst _, _, ⟨a, vs, h1, h2, h3⟩ => ⟨a, vs, h1, e.sqL h2, relDs.mono e h3⟩
  | .obj _ _, _, ⟨a, dx, fs, h1, h2, h3, h4⟩ => ⟨a, dx, fs, h1, e.sub _ _ h2, h3, relDs.mono e h4⟩
  | .ref _, _, ⟨a, h1, h2⟩ => ⟨a, h1, e.pre _ _ h2⟩
  | .fn _, _, h => h
  | .cls _, _, h => h
  | .ty _, _, h => h
theorem relDs.mono {G : GW} {m m' : List Addr} {F F' : Hp} (e : Ext m F m' F') : ∀ {ds : List D} {vs : List V}, relDs G m F ds vs → relDs G m' F' ds vs
  | [], _, h => h
  | _ :: _, _, ⟨v, r, h1, h2, h3⟩ => ⟨v, r, h1, relD.mono e h2, relDs.mono e h3⟩
end
section
variable {G : GW} {m : List Addr} {F : Hp}
theorem relDs.nil : relDs G m F [] [] := rfl
theorem relDs.cons {d : D} {v : V} {ds : List D} {vs : List V} (h : relD G m F d v) (t : relDs G m F ds vs) : relDs G m F (d :: ds) (v :: vs) := ⟨v, vs, rfl, h, t⟩
theorem relDs.length : ∀ {ds : List D} {vs : List V}, relDs G m F ds vs → ds.length = vs.length
  | [], _, h => by rw [show _ = [] from h]; rfl
  | _ :: _, _, ⟨_, _, h1, _, h3⟩ => by rw [h1, List.length_cons, List.length_cons, relDs.length h3]
theorem relDs.get : ∀ {ds : List D} {vs : List V} {i : Nat} {d : D}, relDs G m F ds vs → ds[i]? = some d → ∃ v, vs[i]? = some v ∧ relD G m F d v
  | [], _, _, _, _, e => by simp at e
  | _ :: _, _, 0, _, ⟨v, r, h1, h2, _⟩, e => by
    simp at e; subst e; exact ⟨v, by rw [h1]; rfl, h2⟩
  | _ :: _, _, i + 1, d, ⟨v, r, h1, _, h3⟩, e => by
    obtain ⟨w, hw, q⟩ := relDs.get (i := i) (d := d) h3 (by simpa using e)
    exact ⟨w, by rw [h1]; simpa using hw, q⟩
theorem relDs.get' {ds : List D} {vs : List V} {i : Nat} {v : V} (h : relDs G m F ds vs) (e : vs[i]? = some v) : ∃ d, ds[i]? = some d ∧ relD G m F d v := by
  have hl : i < ds.length := by rw [h.length]; exact (List.getElem?_eq_some_iff.mp e).1
  obtain ⟨w, hw, q⟩ := h.get (List.getElem?_eq_getElem hl)
  rw [e] at hw; cases hw
  exact ⟨_, List.getElem?_eq_getElem hl, q⟩
theorem relDs.append : ∀ {ds es : List D} {vs ws : List V}, relDs G m F ds vs → relDs G m F es ws → relDs G m F (ds ++ es) (vs ++ ws)
  | [], _, _, _, h, t => by rw [show _ = [] from h]; exact t
  | _ :: _, _, _, _, ⟨v, r, h1, h2, h3⟩, t => ⟨v, r ++ _, by rw [h1]; rfl, h2, relDs.append h3 t⟩
theorem relDs.take : ∀ {ds : List D} {vs : List V} (n : Nat), relDs G m F ds vs → relDs G m F (ds.take n) (vs.take n)
  | _, _, 0, _ => by simp [relDs]
  | [], _, _ + 1, h => by rw [show _ = [] from h]; rfl
  | _ :: _, _, n + 1, ⟨v, r, h1, h2, h3⟩ => ⟨v, r.take n, by rw [h1]; rfl, h2, relDs.take n h3⟩
theorem relDs.drop : ∀ {ds : List D} {vs : List V} (n : Nat), relDs G m F ds vs → relDs G m F (ds.drop n) (vs.drop n)
  | _, _, 0, h => h
  | [], _, _ + 1, h => by rw [show _ = [] from h]; rfl
  | _ :: _, _, n + 1, ⟨v, r, h1, h2, h3⟩ => by rw [h1]; exact relDs.drop n h3
theorem relDs.set {x : D} {v : V} (hx : relD G m F x v) : ∀ {ds : List D} {vs : List V} (i : Nat), relDs G m F ds vs → relDs G m F (ds.set i x) (vs.set i v)
  | [], _, _, h => by rw [show _ = [] from h]; rfl
  | _ :: _, _, 0, ⟨w, r, h1, _, h3⟩ => ⟨v, r, by rw [h1]; rfl, hx, h3⟩
  | _ :: _, _, i + 1, ⟨w, r, h1, h2, h3⟩ => ⟨w, r.set i v, by rw [h1]; rfl, h2, relDs.set hx i h3⟩
theorem relDs.reverse : ∀ {ds : List D} {vs : List V}, relDs G m F ds vs → relDs G m F ds.reverse vs.reverse
  | [], _, h => by rw [show _ = [] from h]; rfl
  | _ :: _, _, ⟨v, r, h1, h2, h3⟩ => by
    rw [h1, List.reverse_cons, List.reverse_cons]
    exact (relDs.reverse h3).append ⟨v, [], rfl, h2, rfl⟩
theorem relDs.of_get : ∀ {ds : List D} {vs : List V}, ds.length = vs.length → (∀ (i : Nat) d v, ds[i]? = some d → vs[i]? = some v → relD G m F d v) → relDs G m F ds vs
  | [], [], _, _ => rfl
  | [], _ :: _, h, _ => by simp at h
  | _ :: _, [], h, _ => by simp at h
  | d :: ds, v :: vs, h, q => ⟨v, vs, rfl, q 0 d v rfl rfl, relDs.of_get (by simpa using h) fun i d' v' h1 h2 => q (i + 1) d' v' (by simpa using h1) (by simpa using h2)⟩
end

/-- a cell of the store and what stands at its address -/
def relC (G : GW) (m : List Addr) (F : Hp) : Cell → Option HO → Prop
  | .lst ds, o => ∃ vs, o = some (.lst vs) ∧ relDs G m F ds vs
  | .dct kvs, o => ∃ ws, o = some (.dK ws) ∧ kvs.map (·.1) = ws.map (·.1) ∧ relDs G m F (kvs.map (·.2)) (ws.map (·.2))
  | .obj c fs, o => ∃ dx ws, o = some (.ins (G.clA c) dx ws) ∧ fs.map (·.1) = ws.map (·.1) ∧ relDs G m F (fs.map (·.2)) (ws.map (·.2))
theorem relC.mono {G : GW} {m m' : List Addr} {F F' : Hp} (e : Ext m F m' F') : ∀ {c : Cell} {o : Option HO}, relC G m F c o → relC G m' F' c o
  | .lst _, _, ⟨vs, h1, h2⟩ => ⟨vs, h1, h2.mono e⟩
  | .dct _, _, ⟨ws, h1, h2, h3⟩ => ⟨ws, h1, h2, h3.mono e⟩
  | .obj _ _, _, ⟨dx, ws, h1, h2, h3⟩ => ⟨dx, ws, h1, h2, h3.mono e⟩
theorem relC.mut {G : GW} {m : List Addr} {F : Hp} {c : Cell} {o : Option HO} (h : relC G m F c o) : Mut o := by
  cases c with
  | lst _ => obtain ⟨_, rfl, _⟩ := h; trivial
  | dct _ => obtain ⟨_, rfl, _⟩ := h; trivial
  | obj _ _ => obtain ⟨_, _, rfl, _⟩ := h; trivial

/-- the simulation: m the cells' addresses, F what never changes -/
structure Sim (G : GW) (m : List Addr) (F : Hp) (S : Store) (H : Hp) : Prop where
  sub : ∀ a o, F a = some o → H a = some o
  nod : m.Nodup
  len : m.length = S.length
  fre : ∀ a ∈ m, F a = none
  cel : ∀ (i : Nat) a c, m[i]? = some a → S[i]? = some c → relC G m F c (H a)

section
variable {G : GW} {m : List Addr} {F : Hp} {S : Store} {H : Hp}
theorem Sim.ext (s : Sim G m F S H) : ∀ a o, F a = some o → H a = some o := s.sub
theorem Sim.sqT {K : PySem.W.Frag} (s : Sim G m F S H) {a : Addr} {xs : List V} (h : TqT K F a xs) : SqT K H a xs := h.sq s.sub
theorem Sim.sqL {K : PySem.W.Frag} (s : Sim G m F S H) {a : Addr} {xs : List V} (h : SqL K F a xs) : SqL K H a xs := (Ext.mk (m := []) (m' := []) (fun _ _ h => h) s.sub).sqL h
theorem Sim.at (s : Sim G m F S H) {i : Nat} {a : Addr} (h : m[i]? = some a) : ∃ c, S[i]? = some c ∧ relC G m F c (H a) := by
  have hi : i < S.length := by rw [← s.len]; exact (List.getElem?_eq_some_iff.mp h).1
  exact ⟨S[i], List.getElem?_eq_getElem hi, s.cel i a _ h (List.getElem?_eq_getElem hi)⟩
theorem Sim.at' (s : Sim G m F S H) {i : Nat} {c : Cell} (h : S[i]? = some c) : ∃ a, m[i]? = some a ∧ relC G m F c (H a) := by
  have hi : i < m.length := by rw [s.len]; exact (List.getElem?_eq_some_iff.mp h).1
  exact ⟨m[i], List.getElem?_eq_getElem hi, s.cel i _ c (List.getElem?_eq_getElem hi) h⟩
theorem Sim.there (s : Sim G m F S H) {a : Addr} (h : a ∈ m) : ∃ o, H a = Option.some o := by
  obtain ⟨i, hi, e⟩ := List.getElem_of_mem h
  obtain ⟨c, _, hc⟩ := s.at (i := i) (a := a) (by rw [List.getElem?_eq_getElem hi, e])
  cases c with
  | lst _ => obtain ⟨_, h, _⟩ := hc; exact ⟨_, h⟩
  | dct _ => obtain ⟨_, h, _⟩ := hc; exact ⟨_, h⟩
  | obj _ _ => obtain ⟨_, _, h, _⟩ := hc; exact ⟨_, h⟩
theorem Sim.notin (s : Sim G m F S H) {p : Addr} (h : H p = none) : p ∉ m := fun z => by
  obtain ⟨o, e⟩ := s.there z
  rw [h] at e; cases e
theorem Sim.fnone (s : Sim G m F S H) {p : Addr} (h : H p = none) : F p = none := by
  cases e : F p with
  | none => rfl
  | some o => rw [s.sub p o e] at h; cases h
/-- a new frozen object -/
theorem Sim.newF (s : Sim G m F S H) {p : Addr} {o : HO} (h : H p = none) : Sim G m (upd F p o) S (upd H p o) ∧ Ext m F m (upd F p o) := by
  have e : Ext m F m (upd F p o) := ⟨fun _ _ h => h, fun a u q => by rw [upd_ne (ne_of_none q (s.fnone h))]; exact q⟩
  refine ⟨⟨fun a u q => ?_, s.nod, s.len, fun a ha => ?_, fun i a c h1 h2 => ?_⟩, e⟩
  · by_cases ha : a = p
    · subst ha; rw [upd_same] at q ⊢; exact q
    · rw [upd_ne ha] at q ⊢; exact s.sub a u q
  · rw [upd_ne (fun (z : a = p) => s.notin h (z ▸ ha))]; exact s.fre a ha
  · rw [upd_ne (fun (z : a = p) => s.notin h (z ▸ List.mem_of_getElem? h1))]
    exact (s.cel i a c h1 h2).mono e
/-- a new cell -/
theorem Sim.newC (s : Sim G m F S H) {p : Addr} {o : HO} {c : Cell} (h : H p = none) (hc : relC G m F c (Option.some o)) : Sim G (m ++ [p]) F (S ++ [c]) (upd H p o) ∧ Ext m F (m ++ [p]) F := by
  have e : Ext m F (m ++ [p]) F := ⟨fun i a q => by rw [List.getElem?_append_left (List.getElem?_eq_some_iff.mp q).1]; exact q, fun _ _ h => h⟩
  refine ⟨⟨fun a u q => ?_, ?_, by simp [s.len], fun a ha => ?_, fun i a c' h1 h2 => ?_⟩, e⟩
  · rw [upd_ne (ne_of_none q (s.fnone h))]; exact s.sub a u q
  · rw [List.nodup_append]
    refine ⟨s.nod, by simp, fun a ha b hb => ?_⟩
    have : b = p := by simpa using hb
    subst this
    exact fun z => s.notin h (z ▸ ha)
  · rcases List.mem_append.mp ha with ha | ha
    · exact s.fre a ha
    · have : a = p := by simpa using ha
      subst this; exact s.fnone h
  · by_cases hi : i < m.length
    · rw [List.getElem?_append_left hi] at h1
      rw [List.getElem?_append_left (by rw [← s.len]; exact hi)] at h2
      rw [upd_ne (fun (z : a = p) => s.notin h (z ▸ List.mem_of_getElem? h1))]
      exact (s.cel i a c' h1 h2).mono e
    · rw [List.getElem?_append_right (by omega)] at h1
      rw [List.getElem?_append_right (by rw [← s.len]; omega)] at h2
      have hi0 : i - m.length = 0 := by
        have := (List.getElem?_eq_some_iff.mp h1).1
        simp at this; omega
      rw [hi0] at h1
      rw [show i - S.length = 0 by rw [← s.len]; exact hi0] at h2
      simp at h1 h2
      subst h1 h2
      rw [upd_same]
      exact hc.mono e
/-- a cell is written -/
theorem Sim.write (s : Sim G m F S H) {i : Nat} {a : Addr} {o : HO} {c : Cell} (h : m[i]? = Option.some a) (hc : relC G m F c (Option.some o)) : Sim G m F (S.set i c) (upd H a o) := by
  have ha : a ∈ m := List.mem_of_getElem? h
  refine ⟨fun b u q => ?_, s.nod, by simp [s.len], s.fre, fun j b c' h1 h2 => ?_⟩
  · rw [upd_ne (ne_of_none q (s.fre a ha))]; exact s.sub b u q
  · by_cases hj : j = i
    · subst hj
      rw [h] at h1; cases h1
      have hl : j < S.length := by rw [← s.len]; exact (List.getElem?_eq_some_iff.mp h).1
      rw [List.getElem?_set_self hl] at h2; cases h2
      rw [upd_same]; exact hc
    · rw [List.getElem?_set_ne (Ne.symm hj)] at h2
      have hb : b ≠ a := by
        rintro rfl
        obtain ⟨l1, e1⟩ := List.getElem?_eq_some_iff.mp h
        obtain ⟨l2, e2⟩ := List.getElem?_eq_some_iff.mp h1
        exact hj ((List.getElem_inj s.nod).mp (e2.trans e1.symm))
      rw [upd_ne hb]
      exact s.cel j b c' h1 h2
end

/-- slots: what the interpreter knows of them -/
abbrev En := List (Option D)
structure relE (G : GW) (m : List Addr) (F : Hp) (ρ : En) (σ : St) : Prop where
  len : ρ.length = σ.length
  get : ∀ (i : Nat) d, ρ[i]? = some (some d) → ∃ v, σ[i]? = some (some v) ∧ relD G m F d v
section
variable {G : GW} {m m' : List Addr} {F F' : Hp} {ρ : En} {σ : St}
theorem relE.mono (e : Ext m F m' F') (r : relE G m F ρ σ) : relE G m' F' ρ σ := ⟨r.len, fun i d h => let ⟨v, h1, h2⟩ := r.get i d h; ⟨v, h1, h2.mono e⟩⟩
theorem relE.set (r : relE G m F ρ σ) {d : D} {v : V} (i : Nat) (h : relD G m F d v) : relE G m F (ρ.set i (some d)) (σ.set i (some v)) := by
  refine ⟨by simp [r.len], fun j d' e => ?_⟩
  by_cases hj : i = j
  · subst hj
    have hl : i < ρ.length := by have := (List.getElem?_eq_some_iff.mp e).1; simpa using this
    rw [List.getElem?_set_self hl] at e; cases e
    exact ⟨v, by rw [List.getElem?_set_self (by rw [← r.len]; exact hl)], h⟩
  · rw [List.getElem?_set_ne hj] at e
    rw [List.getElem?_set_ne hj]
    exact r.get j d' e
end

/-- what the interpreter's run says of the heap: Q behind its end, W at an exception -/
def Run (G : GW) (W : WX) (σ : St) {α β : Type} (rel : List Addr → Hp → α → β → Prop) (x : M α) (m : List Addr) (F : Hp) (S : Store) (Q : β → Hp → Prop) : Prop :=
  ∃ r, x S = some r ∧ match r with
    | .ok a S' => ∀ m' F' H' b, Ext m F m' F' → Sim G m' F' S' H' → rel m' F' a b → Q b H'
    | .ex e S' => ∀ m' F' H' d ws, Ext m F m' F' → Sim G m' F' S' H' → F' d = some (.xd ws) → e.fs.map (·.1) = ws.map (·.1) → relDs G m' F' (e.fs.map (·.2)) (ws.map (·.2)) → W (.ref (G.clA e.c)) (some d) σ H'
section
variable {G : GW} {W : WX} {σ : St} {α β γ δ : Type} {rel : List Addr → Hp → α → β → Prop} {rel' : List Addr → Hp → γ → δ → Prop} {x : M α} {f : α → M γ} {m m' : List Addr} {F F' : Hp} {S S' : Store} {H : Hp}
theorem Run.imp {Q Q' : β → Hp → Prop} (h : Run G W σ rel x m F S Q) (q : ∀ b H, Q b H → Q' b H) : Run G W σ rel x m F S Q' := by
  obtain ⟨r, e, h⟩ := h
  refine ⟨r, e, ?_⟩
  cases r with
  | ok a S' => exact fun m' F' H' b h1 h2 h3 => q _ _ (h m' F' H' b h1 h2 h3)
  | ex _ _ => exact h
theorem Run.bind {Q : δ → Hp → Prop} (h : Run G W σ rel' (M.bind x f) m F S Q) :
    Run G W σ rel x m F S fun b H' => ∃ m' F' S' a, Ext m F m' F' ∧ Sim G m' F' S' H' ∧ rel m' F' a b ∧ Run G W σ rel' (f a) m' F' S' Q := by
  obtain ⟨r, e, h⟩ := h
  cases ex : x S with
  | none => rw [show M.bind x f S = none by unfold M.bind; rw [ex]] at e; cases e
  | some r1 =>
    cases r1 with
    | ok a S1 =>
      rw [M.bind_ok ex] at e
      refine ⟨_, ex, fun m1 F1 H1 b h1 h2 h3 => ⟨m1, F1, S1, a, h1, h2, h3, r, e, ?_⟩⟩
      cases r with
      | ok c S2 => exact fun m2 F2 H2 d q1 q2 q3 => h m2 F2 H2 d (h1.trans q1) q2 q3
      | ex x S2 => exact fun m2 F2 H2 d ws q1 q2 q3 => h m2 F2 H2 d ws (h1.trans q1) q2 q3
    | ex y S1 =>
      rw [M.bind_ex ex] at e
      cases e
      exact ⟨_, ex, h⟩
theorem Run.ret {Q : β → Hp → Prop} {a : α} {b : β} (h : Run G W σ rel (M.ret a) m F S Q) (s : Sim G m F S H) (r : rel m F a b) : Q b H := by
  obtain ⟨_, e, h⟩ := h
  cases e
  exact h m F H b .refl s r
theorem Run.stuck {Q : β → Hp → Prop} (h : Run G W σ rel (M.stuck : M α) m F S Q) : False := by
  obtain ⟨_, e, _⟩ := h
  cases e
theorem Run.guard {Q : β → Hp → Prop} {p : Prop} [Decidable p] (h : Run G W σ rel (M.guard p x) m F S Q) : p ∧ Run G W σ rel x m F S Q := by
  unfold M.guard at h
  split at h
  · exact ⟨by assumption, h⟩
  · exact h.stuck.elim
/-- the end is known -/
theorem Run.ok {Q : β → Hp → Prop} {a : α} (h : Run G W σ rel x m F S Q) (e : x S = some (.ok a S')) : ∀ m' F' H' b, Ext m F m' F' → Sim G m' F' S' H' → rel m' F' a b → Q b H' := by
  obtain ⟨_, e', h⟩ := h
  rw [e] at e'; cases e'
  exact h
end

/-- the readings -/
def tM (G : GW) (W : WX) {α β : Type} (rel : List Addr → Hp → α → β → Prop) (f : En → M α) : St → Hp → (β → Hp → Prop) → Prop :=
  fun σ H Q => ∃ m F ρ S, Sim G m F S H ∧ relE G m F ρ σ ∧ Run G W σ rel (f ρ) m F S Q
abbrev tE (G : GW) (W : WX) (f : En → M D) : TE := tM G W (relD G) f
abbrev tA (G : GW) (W : WX) (f : En → M (List D)) : TA := tM G W (relDs G) f
def relB : List Addr → Hp → Bool → Bool → Prop := fun _ _ a b => a = b
abbrev tT (G : GW) (W : WX) (f : En → M Bool) : TT := tM G W relB f
/-- a step of a reading: the first part, then the rest -/
theorem tM.bind {G : GW} {W : WX} {α β γ δ : Type} {rel : List Addr → Hp → α → β → Prop} {rel' : List Addr → Hp → γ → δ → Prop} {f : En → M α} {g : En → α → M γ} {σ : St} {H : Hp} {Q : δ → Hp → Prop}
    (h : tM G W rel' (fun ρ => M.bind (f ρ) (g ρ)) σ H Q) : tM G W rel f σ H fun b H' => ∃ m F ρ S a, Sim G m F S H' ∧ relE G m F ρ σ ∧ rel m F a b ∧ Run G W σ rel' (g ρ a) m F S Q := by
  obtain ⟨m, F, ρ, S, s, e, r⟩ := h
  exact ⟨m, F, ρ, S, s, e, r.bind.imp fun b H' ⟨m', F', S', a, x, s', q, r'⟩ => ⟨m', F', ρ, S', a, s', e.mono x, q, r'⟩⟩
theorem tM.imp {G : GW} {W : WX} {α β : Type} {rel : List Addr → Hp → α → β → Prop} {f : En → M α} {σ : St} {H : Hp} {Q Q' : β → Hp → Prop} (h : tM G W rel f σ H Q) (q : ∀ b H, Q b H → Q' b H) : tM G W rel f σ H Q' := by
  obtain ⟨m, F, ρ, S, s, e, r⟩ := h
  exact ⟨m, F, ρ, S, s, e, r.imp q⟩
theorem PEimp {X : Cx} {e : Expr} {t t' : TE} (h : PE X e t) (w : ∀ σ H Q, t' σ H Q → t σ H Q) : PE X e t' := ⟨fun pins s σ H Q I q => h.run pins s σ H Q I (w σ H Q q)⟩
theorem PTimp {X : Cx} {e : Expr} {t t' : TT} (h : PT X e t) (w : ∀ σ H Q, t' σ H Q → t σ H Q) : PT X e t' := ⟨fun pins s σ H Q I q => h.run pins s σ H Q I (w σ H Q q)⟩
theorem PWimp {X : Cx} {e : Expr} {t t' : TT} (h : PW X e t) (w : ∀ σ H Q, t' σ H Q → t σ H Q) : PW X e t' := ⟨fun wh pins s σ H Q I q => h.run wh pins s σ H Q I (w σ H Q q)⟩
theorem PAimp {X : Cx} {e : List Expr} {t t' : TA} (h : PA X e t) (w : ∀ σ H Q, t' σ H Q → t σ H Q) : PA X e t' := ⟨fun p pins s σ H Q I q => h.run p pins s σ H Q I (w σ H Q q)⟩
theorem PSimp {X : Cx} {e : Stmt} {t t' : TS} (h : PS X e t) (w : ∀ D σ H, t' D σ H → t D σ H) : PS X e t' := ⟨fun pins s σ H D I q => h.run pins s σ H D I (w D σ H q)⟩
theorem PSsimp {X : Cx} {e : List Stmt} {t t' : TS} (h : PSs X e t) (w : ∀ D σ H, t' D σ H → t D σ H) : PSs X e t' := ⟨fun pins s σ H D I q => h.run pins s σ H D I (w D σ H q)⟩
end MP

/-! MPB: operators by values. -/
namespace MP
open PySem PySem.Spec PyProof.Rows L2

/-! ### data for == -/
mutual
/-- a value without instances, functions or cells, as the library's data -/
def toP : D → Option PyData
  | .non => some .none
  | .bl b => some (.bool b)
  | .int i => some (.int i)
  | .str x => if PyData.strOk x = true then some (.str x) else none
  | .tup xs => (toPs xs).map .tuple
  | .flst xs => (toPs xs).map .list
  | _ => none
def toPs : List D → Option (List PyData)
  | [] => some []
  | d :: ds => match toP d, toPs ds with
    | some p, some ps => some (p :: ps)
    | _, _ => none
end
/-- .. or a list that stands in the store, of such -/
def toPS (S : Store) : D → Option PyData
  | .ref i => (match S[i]? with
    | some (.lst xs) => (toPs xs).map .list
    | _ => none)
  | d => toP d
mutual
theorem toP.lay : ∀ {d : D} {p : PyData}, toP d = some p → p.canLay0 = true
  | .non, _, h => by cases h; rfl
  | .bl _, _, h => by cases h; rfl
  | .int _, _, h => by cases h; rfl
  | .str x, _, h => by
    unfold toP at h
    split at h
    · cases h; assumption
    · cases h
  | .tup xs, p, h => by
    unfold toP at h
    obtain ⟨ps, h1, rfl⟩ := Option.map_eq_some_iff.mp h
    exact toPs.lay h1
  | .flst xs, p, h => by
    unfold toP at h
    obtain ⟨ps, h1, rfl⟩ := Option.map_eq_some_iff.mp h
    exact toPs.lay h1
  | .obj _ _, _, h => by cases h
  | .ref _, _, h => by cases h
  | .fn _, _, h => by cases h
  | .cls _, _, h => by cases h
  | .ty _, _, h => by cases h
theorem toPs.lay : ∀ {ds : List D} {ps : List PyData}, toPs ds = some ps → PyData.canLayAll0 ps = true
  | [], _, h => by cases h; rfl
  | d :: ds, _, h => by
    unfold toPs at h
    split at h
    · rename_i p ps h1 h2
      cases h
      show (p.canLay0 && PyData.canLayAll0 ps) = true
      rw [toP.lay h1, toPs.lay h2]; rfl
    · cases h
end
section
variable {G : GW} {m : List Addr} {F H : Hp} {S : Store}
mutual
theorem toP.dp (sub : ∀ a o, F a = some o → H a = some o) : ∀ {d : D} {p : PyData} {v : V}, toP d = some p → relD G m F d v → Dp G.K H v p
  | .non, _, _, h, r => by cases h; rw [show _ = V.non from r]; exact .non
  | .bl _, _, _, h, r => by cases h; rw [show _ = V.bl _ from r]; exact .bl _
  | .int _, _, _, h, r => by cases h; rw [show _ = V.int _ from r]; exact .int _
  | .str x, _, _, h, r => by
    unfold toP at h
    split at h
    · cases h; rw [show _ = V.str _ from r]; exact .str _
    · cases h
  | .tup xs, p, _, h, r => by
    unfold toP at h
    obtain ⟨ps, h1, rfl⟩ := Option.map_eq_some_iff.mp h
    obtain ⟨a, vs, rfl, hs, hr⟩ := r
    exact .tup (hs.sq sub) (toPs.dp sub h1 hr)
  | .flst xs, p, _, h, r => by
    unfold toP at h
    obtain ⟨ps, h1, rfl⟩ := Option.map_eq_some_iff.mp h
    obtain ⟨a, vs, rfl, hs, hr⟩ := r
    exact .lst ((Ext.mk (m := []) (m' := []) (fun _ _ h => h) sub).sqL hs) (toPs.dp sub h1 hr)
  | .obj _ _, _, _, h, _ => by cases h
  | .ref _, _, _, h, _ => by cases h
  | .fn _, _, _, h, _ => by cases h
  | .cls _, _, _, h, _ => by cases h
  | .ty _, _, _, h, _ => by cases h
theorem toPs.dp (sub : ∀ a o, F a = some o → H a = some o) : ∀ {ds : List D} {ps : List PyData} {vs : List V}, toPs ds = some ps → relDs G m F ds vs → DpAll G.K H vs ps
  | [], _, _, h, r => by cases h; rw [show _ = [] from r]; exact .nil
  | d :: ds, _, _, h, r => by
    unfold toPs at h
    split at h
    · rename_i p ps h1 h2
      cases h
      obtain ⟨v, vs, rfl, r1, r2⟩ := r
      exact .cons (toP.dp sub h1 r1) (toPs.dp sub h2 r2)
    · cases h
end
theorem toPS.dp (s : Sim G m F S H) {d : D} {p : PyData} {v : V} (h : toPS S d = some p) (r : relD G m F d v) : Dp G.K H v p := by
  cases d with
  | ref i =>
    unfold toPS at h
    simp only at h
    split at h
    · rename_i xs e
      obtain ⟨ps, h1, rfl⟩ := Option.map_eq_some_iff.mp h
      obtain ⟨a, rfl, ha⟩ := r
      have hc := s.cel i a _ ha e
      obtain ⟨vs, h2, h3⟩ := hc
      exact .lst (.of h2) (toPs.dp s.sub h1 h3)
    · cases h
  | _ => exact toP.dp s.sub (by exact h) r
theorem toPS.lay {d : D} {p : PyData} (h : toPS S d = some p) : p.canLay0 = true := by
  cases d with
  | ref i =>
    unfold toPS at h
    simp only at h
    split at h
    · obtain ⟨ps, h1, rfl⟩ := Option.map_eq_some_iff.mp h
      exact toPs.lay h1
    · cases h
  | _ => exact toP.lay (by exact h)
end

/-! ### two-place operations -/
def mulOk (i j : Int) : Prop := (-(2 ^ 64) < i ∧ i < 2 ^ 64) ∨ (-(2 ^ 64) < j ∧ j < 2 ^ 64) ∨ i.natAbs.log2 + j.natAbs.log2 < 100000000
instance (i j : Int) : Decidable (mulOk i j) := by unfold mulOk; infer_instance
theorem mulOk.ok {i j : Int} (h : mulOk i j) : IntMulOk i j := by
  rcases h with h | h | h
  · exact CMul.ok (.inl h)
  · exact CMul.ok (.inr h)
  · have b : ∀ x : Int, Builtin.Int.intBits x ≤ x.natAbs.log2 + 1 := fun x => by
      unfold Builtin.Int.intBits
      split <;> omega
    have h1 := b i
    have h2 := b j
    have e : bitsLine = 134217728 := by decide
    unfold IntMulOk
    intro z
    rw [Bool.and_eq_true] at z
    have z2 := z.2
    unfold Builtin.Int.intTooBig at z2
    have z3 := of_decide_eq_true z2
    rw [e] at z3
    omega
def divOk (j : Int) : Prop := j ≠ 0 ∧ j.natAbs.log2 < 9000
instance (j : Int) : Decidable (divOk j) := by unfold divOk; infer_instance
def powOk (i j : Int) : Prop := 0 ≤ j ∧ j ≤ 1000000 ∧ i.natAbs < 2 ^ 64
instance (i j : Int) : Decidable (powOk i j) := by unfold powOk; infer_instance
def repOk (n : Nat) (k : Int) : Prop := -(2 ^ 63) ≤ k ∧ k < 2 ^ 63 ∧ n * k.toNat ≤ sizeLine
instance (n : Nat) (k : Int) : Decidable (repOk n k) := by unfold repOk; infer_instance

/-- a new list -/
def newL (xs : List D) : M D := fun S => some (.ok (.ref S.length) (S ++ [.lst xs]))
/-- the list at a cell -/
def getL (i : Nat) : M (List D) := fun S => match S[i]? with
  | some (.lst xs) => some (.ok xs S)
  | _ => none

def oAdd : D → D → M D
  | .int i, .int j => .ret (.int (i + j))
  | .str x, .str y => .guard (x.length + y.length ≤ sizeLine) (.ret (.str (x ++ y)))
  | .tup xs, .tup ys => .guard (xs.length + ys.length ≤ sizeLine) (.ret (.tup (xs ++ ys)))
  | .ref i, .ref j => .bind (getL i) fun xs => .bind (getL j) fun ys => .guard (xs.length + ys.length ≤ sizeLine) (newL (xs ++ ys))
  | _, _ => .stuck
def oSub : D → D → M D
  | .int i, .int j => .ret (.int (i - j))
  | _, _ => .stuck
def oMul : D → D → M D
  | .int i, .int j => .guard (mulOk i j) (.ret (.int (i * j)))
  | .ref i, .int k => .bind (getL i) fun xs => .guard (repOk xs.length k) (newL (List.replicate k.toNat xs).flatten)
  | _, _ => .stuck
def oFdiv : D → D → M D
  | .int i, .int j => .guard (divOk j) (.ret (.int (i.fdiv j)))
  | _, _ => .stuck
def oMod : D → D → M D
  | .int i, .int j => .guard (j ≠ 0) (.ret (.int (i.fmod j)))
  | _, _ => .stuck
def oPow : D → D → M D
  | .int i, .int j => .guard (powOk i j) (.ret (.int (i ^ j.toNat)))
  | _, _ => .stuck
def oNeg : D → M D
  | .int i => .ret (.int (-i))
  | _ => .stuck

/-- an operation on values is told by o -/
def OpS (X : Cx) (G : GW) (f : Value → Value → Sem Value) (o : D → D → M D) : Prop :=
  ∀ (W : WX) (pins : List (Addr × Obj)) (s : Shared) (σ : St) (H : Hp) (x y : V) (v u : Value) (Q : VK) (m : List Addr) (F : Hp) (S : Store) (d e : D), Inv X pins σ H s → RelV x v → RelV y u →
    Sim G m F S H → relD G m F d x → relD G m F e y → Run G W σ (relD G) (o d e) m F S Q → wpAny (model X.prog X.w) X.A (f v u) (EP X pins σ Q) X.xe s
/-- a comparison on values is told by c -/
def CmS (X : Cx) (G : GW) (f : Value → Value → Sem Value) (c : D → D → M Bool) : Prop :=
  ∀ (W : WX) (pins : List (Addr × Obj)) (s : Shared) (σ : St) (H : Hp) (x y : V) (v u : Value) (Q : Bool → Hp → Prop) (m : List Addr) (F : Hp) (S : Store) (d e : D), Inv X pins σ H s → RelV x v → RelV y u →
    Sim G m F S H → relD G m F d x → relD G m F e y → Run G W σ relB (c d e) m F S Q → wpAny (model X.prog X.w) X.A (f v u) (EP X pins σ fun z H' => ∃ k, z = .bl k ∧ Q k H') X.xe s
def UnS (X : Cx) (G : GW) (f : Value → Sem Value) (o : D → M D) : Prop :=
  ∀ (W : WX) (pins : List (Addr × Obj)) (s : Shared) (σ : St) (H : Hp) (x : V) (v : Value) (Q : VK) (m : List Addr) (F : Hp) (S : Store) (d : D), Inv X pins σ H s → RelV x v →
    Sim G m F S H → relD G m F d x → Run G W σ (relD G) (o d) m F S Q → wpAny (model X.prog X.w) X.A (f v) (EP X pins σ Q) X.xe s

section
variable {X : Cx} {G : GW} {W : WX} {σ : St} {m : List Addr} {F : Hp} {S : Store} {H : Hp} {Q : VK}
theorem run_newL {ds : List D} {vs : List V} (h : Run G W σ (relD G) (newL ds) m F S Q) (s : Sim G m F S H) (r : relDs G m F ds vs) : ∀ p, H p = none → Q (.ref p) (upd H p (.lst vs)) := fun p hp => by
  obtain ⟨s', e⟩ := s.newC (c := .lst ds) (o := .lst vs) hp ⟨vs, rfl, r⟩
  exact h.ok rfl _ _ _ _ e s' ⟨p, rfl, by rw [← s.len]; simp⟩
theorem run_getL {i : Nat} {a : Addr} {γ δ : Type} {rel : List Addr → Hp → γ → δ → Prop} {f : List D → M γ} {Q : δ → Hp → Prop} (h : Run G W σ rel (M.bind (getL i) f) m F S Q) (s : Sim G m F S H) (ha : m[i]? = some a) :
    ∃ xs vs, S[i]? = some (.lst xs) ∧ H a = some (.lst vs) ∧ relDs G m F xs vs ∧ Run G W σ rel (f xs) m F S Q := by
  cases e : S[i]? with
  | none =>
    obtain ⟨_, q, _⟩ := h
    unfold M.bind getL at q
    rw [e] at q; cases q
  | some c =>
    cases c with
    | lst xs =>
      obtain ⟨vs, h1, h2⟩ := s.cel i a _ ha e
      refine ⟨xs, vs, rfl, h1, h2, ?_⟩
      obtain ⟨r, q, z⟩ := h
      have q' : M.bind (getL i) f S = f xs S := M.bind_ok (by unfold getL; rw [e])
      exact ⟨r, by rw [← q']; exact q, z⟩
    | dct _ =>
      obtain ⟨_, q, _⟩ := h
      unfold M.bind getL at q
      rw [e] at q; cases q
    | obj _ _ =>
      obtain ⟨_, q, _⟩ := h
      unfold M.bind getL at q
      rw [e] at q; cases q
/-- a new tuple -/
theorem run_tup {ds : List D} {vs : List V} (h : Run G W σ (relD G) (M.ret (.tup ds)) m F S Q) (s : Sim G m F S H) (r : relDs G m F ds vs) : ∀ p, H p = none → Q (.ref p) (upd H p (.tup vs)) := fun p hp => by
  obtain ⟨s', e⟩ := s.newF (o := .tup vs) hp
  exact h.ok rfl _ _ _ _ e s' ⟨p, vs, rfl, .inl upd_same, r.mono e⟩
theorem relDs_rep {ds : List D} {vs : List V} (r : relDs G m F ds vs) : ∀ k : Nat, relDs G m F (List.replicate k ds).flatten (List.replicate k vs).flatten
  | 0 => rfl
  | k + 1 => by
    rw [List.replicate_succ, List.replicate_succ, List.flatten_cons, List.flatten_cons]
    exact r.append (relDs_rep r k)

theorem os_add (hK : X.K = G.K) : OpS X G (binaryOp .Add) oAdd := by
  intro W pins s σ H x y v u Q m F S d e I rx ry s' hx hy h
  unfold oAdd at h
  split at h
  · cases hx; cases hy
    exact op_add pins s σ H _ _ v u Q I rx ry ⟨_, _, rfl, rfl, h.ret s' rfl⟩
  · cases hx; cases hy
    obtain ⟨hl, h⟩ := h.guard
    exact op_add_str pins s σ H _ _ v u Q I rx ry ⟨_, _, rfl, rfl, hl, h.ret s' rfl⟩
  · obtain ⟨a, vs, rfl, h1, h2⟩ := hx
    obtain ⟨b, ws, rfl, h3, h4⟩ := hy
    obtain ⟨hl, h⟩ := h.guard
    have l1 := h2.length
    have l2 := h4.length
    refine op_catA pins s σ H _ _ v u Q I rx ry ⟨a, b, vs, ws, rfl, rfl, by rw [hK]; exact s'.sqT h1, by rw [hK]; exact s'.sqT h3, by omega, fun e => ?_, fun _ e => ?_, fun _ _ => run_tup h s' (h2.append h4)⟩
    · subst e
      have e0 : (_ : List D) = [] := List.length_eq_zero_iff.mp (l1.trans rfl)
      subst e0
      exact h.ret s' ⟨b, ws, rfl, h3, h4⟩
    · subst e
      have e0 : (_ : List D) = [] := List.length_eq_zero_iff.mp (l2.trans rfl)
      subst e0
      rw [List.append_nil] at h
      exact h.ret s' ⟨a, vs, rfl, h1, h2⟩
  · obtain ⟨a, rfl, h1⟩ := hx
    obtain ⟨b, rfl, h2⟩ := hy
    obtain ⟨xs, vs, _, q1, r1, h⟩ := run_getL h s' h1
    obtain ⟨ys, ws, _, q2, r2, h⟩ := run_getL h s' h2
    obtain ⟨hl, h⟩ := h.guard
    have l1 := r1.length
    have l2 := r2.length
    exact op_cat pins s σ H _ _ v u Q I rx ry ⟨a, b, vs, ws, rfl, rfl, q1, q2, by omega, run_newL h s' (r1.append r2)⟩
  · exact h.stuck.elim
theorem os_sub : OpS X G (binaryOp .Sub) oSub := by
  intro W pins s σ H x y v u Q m F S d e I rx ry s' hx hy h
  unfold oSub at h
  split at h
  · cases hx; cases hy
    exact op_sub pins s σ H _ _ v u Q I rx ry ⟨_, _, rfl, rfl, h.ret s' rfl⟩
  · exact h.stuck.elim
theorem os_mul : OpS X G (binaryOp .Mult) oMul := by
  intro W pins s σ H x y v u Q m F S d e I rx ry s' hx hy h
  unfold oMul at h
  split at h
  · cases hx; cases hy
    obtain ⟨hc, h⟩ := h.guard
    obtain ⟨t, rfl⟩ := rx
    obtain ⟨t', rfl⟩ := ry
    exact mul_int ⟨.int _, H, I.tok _, ⟨_, rfl⟩, h.ret s' rfl⟩ hc.ok
  · obtain ⟨a, rfl, h1⟩ := hx
    cases hy
    obtain ⟨xs, vs, _, q1, r1, h⟩ := run_getL h s' h1
    obtain ⟨⟨hl1, hl2, hl3⟩, h⟩ := h.guard
    have l1 := r1.length
    exact op_rep pins s σ H _ _ v u Q I rx ry ⟨a, _, vs, rfl, rfl, q1, hl1, hl2, by rw [← l1]; exact hl3, run_newL h s' (relDs_rep r1 _)⟩
  · exact h.stuck.elim
theorem os_fdiv : OpS X G (binaryOp .FloorDiv) oFdiv := by
  intro W pins s σ H x y v u Q m F S d e I rx ry s' hx hy h
  unfold oFdiv at h
  split at h
  · cases hx; cases hy
    obtain ⟨hc, h⟩ := h.guard
    obtain ⟨t, rfl⟩ := rx
    obtain ⟨t', rfl⟩ := ry
    exact floordiv_int hc.1 ⟨.int _, H, I.tok _, ⟨_, rfl⟩, h.ret s' rfl⟩ (.inl (PyProof.noPylong_of_log2 hc.2))
  · exact h.stuck.elim
theorem os_mod : OpS X G (binaryOp .Mod) oMod := by
  intro W pins s σ H x y v u Q m F S d e I rx ry s' hx hy h
  unfold oMod at h
  split at h
  · cases hx; cases hy
    obtain ⟨hc, h⟩ := h.guard
    exact op_modN pins s σ H _ _ v u Q I rx ry ⟨_, _, rfl, rfl, hc, h.ret s' rfl⟩
  · exact h.stuck.elim
theorem os_pow : OpS X G (binaryOp .Pow) oPow := by
  intro W pins s σ H x y v u Q m F S d e I rx ry s' hx hy h
  unfold oPow at h
  split at h
  · cases hx; cases hy
    obtain ⟨hc, h⟩ := h.guard
    exact op_pow pins s σ H _ _ v u Q I rx ry ⟨_, _, rfl, rfl, hc, h.ret s' rfl⟩
  · exact h.stuck.elim
theorem us_neg : UnS X G (unaryOp .USub) oNeg := by
  intro W pins s σ H x v Q m F S d I rx s' hx h
  unfold oNeg at h
  split at h
  · cases hx
    exact un_neg pins s σ H _ v Q I rx ⟨_, rfl, h.ret s' rfl⟩
  · exact h.stuck.elim
end

/-! ### comparisons -/
/-- == over data -/
def cEq (a b : D) : M Bool := fun S => match toPS S a, toPS S b with
  | some p, some q => if min p.depth q.depth ≤ 200 then some (.ok (PyData.eqv p q) S) else none
  | _, _ => none
def cNe (a b : D) : M Bool := .bind (cEq a b) fun k => .ret (!k)
def cInt (p : Int → Int → Bool) : D → D → M Bool
  | .int i, .int j => .ret (p i j)
  | _, _ => .stuck
def cLt : D → D → M Bool := cInt fun i j => decide (i < j)
def cLe : D → D → M Bool := cInt fun i j => decide (i ≤ j)
def cGt : D → D → M Bool := cInt fun i j => decide (j < i)
def cGe : D → D → M Bool := cInt fun i j => decide (j ≤ i)
/-- is None, is True, is False -/
def D.isNon : D → Bool
  | .non => true
  | _ => false
def D.isBl (b : Bool) : D → Bool
  | .bl c => c == b
  | _ => false
def cIs (a : D) : D → M Bool
  | .non => .ret a.isNon
  | .bl b => .ret (a.isBl b)
  | _ => .stuck
def cIsNot (a b : D) : M Bool := .bind (cIs a b) fun k => .ret (!k)
section
variable {X : Cx} {G : GW} {W : WX} {σ : St} {m : List Addr} {F : Hp} {S : Store} {H : Hp}
theorem is_bool_gen {M : Model} {A : Around} {E : Value → Shared → Prop} {s : Shared} {Q : Value → Shared → Prop} {x : V} {v : Value} {b : Bool} (r : RelV x v) (h : Q (.bool (v == .bool b)) s) : wpAny M A (compareOp .Is v (.bool b)) Q E s := by
  cases x <;> first
    | (cases r; exact wpAny_pure h)
    | (obtain ⟨t, rfl⟩ := r; exact wpAny_pure h)
theorem isnot_bool_gen {M : Model} {A : Around} {E : Value → Shared → Prop} {s : Shared} {Q : Value → Shared → Prop} {x : V} {v : Value} {b : Bool} (r : RelV x v) (h : Q (.bool (!(v == .bool b))) s) : wpAny M A (compareOp .IsNot v (.bool b)) Q E s := by
  cases x <;> first
    | (cases r; exact wpAny_pure h)
    | (obtain ⟨t, rfl⟩ := r; exact wpAny_pure h)
theorem run_pred {Q : Bool → Hp → Prop} {k : Bool} (h : Run G W σ relB (M.ret k) m F S Q) (s : Sim G m F S H) : Q k H := h.ret s rfl
theorem cs_eq (hK : X.K = G.K) (hu : X.A.units + 200 < cLine) : CmS X G (compareOp .Eq) cEq := by
  intro W pins s σ H x y v u Q m F S d e I rx ry s' hx hy h
  obtain ⟨r, q, h⟩ := h
  unfold cEq at q
  split at q
  · rename_i p1 p2 h1 h2
    split at q
    · rename_i hd
      cases q
      obtain ⟨as, r1⟩ := Dp.reads I p1 x v (by rw [hK]; exact toPS.dp s' h1 hx) rx
      obtain ⟨bs, r2⟩ := Dp.reads I p2 y u (by rw [hK]; exact toPS.dp s' h2 hy) ry
      exact SeqAt.compareEq_reads r1 r2 (toPS.lay h1) (toPS.lay h2) (by omega) ⟨.bl _, H, I, rfl, _, rfl, h m F H _ .refl s' rfl⟩
    · cases q
  · cases q
theorem cs_ne (hK : X.K = G.K) (hu : X.A.units + 200 < cLine) : CmS X G (compareOp .NotEq) cNe := by
  intro W pins s σ H x y v u Q m F S d e I rx ry s' hx hy h
  obtain ⟨r, q, h⟩ := h
  unfold cNe M.bind cEq at q
  split at q
  · rename_i k S1 h0
    split at h0
    · rename_i p1 p2 h1 h2
      split at h0
      · rename_i hd
        cases h0
        cases q
        obtain ⟨as, r1⟩ := Dp.reads I p1 x v (by rw [hK]; exact toPS.dp s' h1 hx) rx
        obtain ⟨bs, r2⟩ := Dp.reads I p2 y u (by rw [hK]; exact toPS.dp s' h2 hy) ry
        exact SeqAt.compareNe_reads r1 r2 (toPS.lay h1) (toPS.lay h2) (by omega) ⟨.bl _, H, I, rfl, _, rfl, h m F H _ .refl s' rfl⟩
      · cases h0
    · cases h0
  · rename_i h0
    split at h0
    · split at h0 <;> cases h0
    · cases h0
  · cases q
theorem cs_int {op : CmpOp} {p : Int → Int → Bool} (ho : OpR X (compareOp op) (rI0 fun i j => .bl (p i j))) : CmS X G (compareOp op) (cInt p) := by
  intro W pins s σ H x y v u Q m F S d e I rx ry s' hx hy h
  unfold cInt at h
  split at h
  · cases hx; cases hy
    exact ho pins s σ H _ _ v u _ I rx ry ⟨_, _, rfl, rfl, _, rfl, run_pred h s'⟩
  · exact h.stuck.elim
theorem cs_lt : CmS X G (compareOp .Lt) cLt := cs_int op_lt
theorem cs_le : CmS X G (compareOp .LtE) cLe := cs_int op_le
theorem cs_gt : CmS X G (compareOp .Gt) cGt := cs_int op_gt
theorem cs_ge : CmS X G (compareOp .GtE) cGe := cs_int op_ge
theorem non_iff {d : D} {x : V} {v : Value} (hx : relD G m F d x) (rx : RelV x v) : (v == Value.none) = d.isNon := by
  cases d with
  | non => cases hx; cases rx; rfl
  | bl _ => cases hx; cases rx; rfl
  | int _ => cases hx; obtain ⟨t, rfl⟩ := rx; rfl
  | str _ => cases hx; obtain ⟨t, rfl⟩ := rx; rfl
  | tup _ => obtain ⟨a, _, rfl, _⟩ := hx; cases rx; rfl
  | flst _ => obtain ⟨a, _, rfl, _⟩ := hx; cases rx; rfl
  | obj _ _ => obtain ⟨a, _, _, rfl, _⟩ := hx; cases rx; rfl
  | ref _ => obtain ⟨a, rfl, _⟩ := hx; cases rx; rfl
  | fn _ => cases hx; cases rx; rfl
  | cls _ => cases hx; cases rx; rfl
  | ty _ => cases hx; cases rx; rfl
theorem bl_iff {d : D} {x : V} {v : Value} {b : Bool} (hx : relD G m F d x) (rx : RelV x v) : (v == Value.bool b) = d.isBl b := by
  cases d with
  | non => cases hx; cases rx; rfl
  | bl c => cases hx; cases rx; cases c <;> cases b <;> rfl
  | int _ => cases hx; obtain ⟨t, rfl⟩ := rx; rfl
  | str _ => cases hx; obtain ⟨t, rfl⟩ := rx; rfl
  | tup _ => obtain ⟨a, _, rfl, _⟩ := hx; cases rx; rfl
  | flst _ => obtain ⟨a, _, rfl, _⟩ := hx; cases rx; rfl
  | obj _ _ => obtain ⟨a, _, _, rfl, _⟩ := hx; cases rx; rfl
  | ref _ => obtain ⟨a, rfl, _⟩ := hx; cases rx; rfl
  | fn _ => cases hx; cases rx; rfl
  | cls _ => cases hx; cases rx; rfl
  | ty _ => cases hx; cases rx; rfl
theorem cs_is : CmS X G (compareOp .Is) cIs := by
  intro W pins s σ H x y v u Q m F S d e I rx ry s' hx hy h
  unfold cIs at h
  split at h
  · cases hy; cases ry
    exact is_none_gen ⟨.bl _, H, I, rfl, _, rfl, by rw [non_iff hx rx]; exact run_pred h s'⟩
  · cases hy; cases ry
    exact is_bool_gen rx ⟨.bl _, H, I, rfl, _, rfl, by rw [bl_iff hx rx]; exact run_pred h s'⟩
  · exact h.stuck.elim
theorem cs_isnot : CmS X G (compareOp .IsNot) cIsNot := by
  intro W pins s σ H x y v u Q m F S d e I rx ry s' hx hy h
  unfold cIsNot cIs at h
  split at h
  · cases hy; cases ry
    exact isnot_none_gen ⟨.bl _, H, I, rfl, _, rfl, by rw [non_iff hx rx]; exact run_pred h s'⟩
  · cases hy; cases ry
    exact isnot_bool_gen rx ⟨.bl _, H, I, rfl, _, rfl, by rw [bl_iff hx rx]; exact run_pred h s'⟩
  · exact (Run.stuck (α := Bool) (rel := relB) h.bind).elim
end

/-! ### truth -/
def truth : D → M Bool
  | .non => .ret false
  | .bl b => .ret b
  | .int i => .ret (i != 0)
  | .str x => .guard (x.length ≤ sizeLine) (.ret ((x.length : Int) != 0))
  | .tup xs => .ret (!xs.isEmpty)
  | .flst xs => .ret (!xs.isEmpty)
  | .ref i => fun S => match S[i]? with
    | some (.lst xs) => some (.ok (!xs.isEmpty) S)
    | some (.dct kvs) => some (.ok (!kvs.isEmpty) S)
    | _ => none
  | _ => .stuck
theorem empty_of_len {α β : Type} {xs : List α} {ys : List β} (h : xs.length = ys.length) : xs.isEmpty = ys.isEmpty := by
  cases xs <;> cases ys <;> simp_all
theorem truth_ok {G : GW} {W : WX} {σ : St} {m : List Addr} {F : Hp} {S : Store} {H : Hp} {Q : Bool → Hp → Prop} {d : D} {x : V} (h : Run G W σ relB (truth d) m F S Q) (s : Sim G m F S H) (hx : relD G m F d x) : ∃ k, TruV G.K x H k ∧ Q k H := by
  cases d with
  | non => cases hx; exact ⟨_, rfl, run_pred h s⟩
  | bl _ => cases hx; exact ⟨_, rfl, run_pred h s⟩
  | int _ => cases hx; exact ⟨_, rfl, run_pred h s⟩
  | str _ =>
    cases hx
    obtain ⟨hl, h⟩ := Run.guard (x := M.ret _) h
    exact ⟨_, ⟨hl, rfl⟩, run_pred h s⟩
  | tup _ =>
    obtain ⟨a, vs, rfl, h1, h2⟩ := hx
    exact ⟨_, .inr (.inl ⟨vs, s.sqT h1, by rw [empty_of_len h2.length]⟩), run_pred h s⟩
  | flst _ =>
    obtain ⟨a, vs, rfl, h1, h2⟩ := hx
    exact ⟨_, .inl ⟨vs, s.sqL h1, by rw [empty_of_len h2.length]⟩, run_pred h s⟩
  | ref _ =>
    obtain ⟨a, rfl, ha⟩ := hx
    obtain ⟨r, q, z⟩ := h
    unfold truth at q
    simp only at q
    split at q
    · rename_i xs e
      cases q
      obtain ⟨vs, h1, h2⟩ := s.cel _ a _ ha e
      exact ⟨_, .inl ⟨vs, .of h1, by rw [empty_of_len h2.length]⟩, z m F H _ .refl s rfl⟩
    · rename_i kvs e
      cases q
      obtain ⟨ws, h1, h2, h3⟩ := s.cel _ a _ ha e
      exact ⟨_, .inr (.inr ⟨ws, h1, by rw [empty_of_len (by simpa using congrArg List.length h2)]⟩), z m F H _ .refl s rfl⟩
    · cases q
  | obj _ _ => exact (Run.stuck (α := Bool) (rel := relB) h).elim
  | fn _ => exact (Run.stuck (α := Bool) (rel := relB) h).elim
  | cls _ => exact (Run.stuck (α := Bool) (rel := relB) h).elim
  | ty _ => exact (Run.stuck (α := Bool) (rel := relB) h).elim
end MP

/-! MPC: expressions. -/
namespace MP
open PySem PySem.Spec PyProof.Rows L2

abbrev Ev := En → M D
abbrev Tv := En → M Bool
abbrev Av := En → M (List D)

def eSlot (i : Nat) : Ev := fun ρ => match ρ[i]? with
  | some (some d) => M.ret d
  | _ => M.stuck
def eC (d : D) : Ev := fun _ => M.ret d
def eOp (o : D → D → M D) (a b : Ev) : Ev := fun ρ => .bind (a ρ) fun x => .bind (b ρ) fun y => o x y
def eUn (o : D → M D) (a : Ev) : Ev := fun ρ => .bind (a ρ) o
def eT (t : Tv) : Ev := fun ρ => .bind (t ρ) fun k => .ret (.bl k)
def tV (e : Ev) : Tv := fun ρ => .bind (e ρ) truth
def eAnd (a b : Ev) : Ev := fun ρ => .bind (a ρ) fun x => .bind (truth x) fun k => if k then b ρ else .ret x
def eOr (a b : Ev) : Ev := fun ρ => .bind (a ρ) fun x => .bind (truth x) fun k => if k then .ret x else b ρ
def tAnd (a b : Tv) : Tv := fun ρ => .bind (a ρ) fun k => if k then b ρ else .ret false
def tOr (a b : Tv) : Tv := fun ρ => .bind (a ρ) fun k => if k then .ret true else b ρ
def tNot (a : Tv) : Tv := fun ρ => .bind (a ρ) fun k => .ret (!k)
def eIf (t : Tv) (a b : Ev) : Ev := fun ρ => .bind (t ρ) fun k => if k then a ρ else b ρ
def tIf (t : Tv) (a b : Tv) : Tv := fun ρ => .bind (t ρ) fun k => if k then a ρ else b ρ
def tCmp (c : D → D → M Bool) (a b : Ev) : Tv := fun ρ => .bind (a ρ) fun x => .bind (b ρ) fun y => c x y
/-- the rest of a chain of comparisons -/
inductive Chn where
  | last (c : D → D → M Bool) (b : Ev)
  | more (c : D → D → M Bool) (b : Ev) (r : Chn)
def Chn.run (x : D) (ρ : En) : Chn → M Bool
  | .last c b => .bind (b ρ) fun y => c x y
  | .more c b r => .bind (b ρ) fun y => .bind (c x y) fun k => if k then r.run y ρ else .ret false
def tChn (a : Ev) (r : Chn) : Tv := fun ρ => .bind (a ρ) fun x => r.run x ρ
def aNil : Av := fun _ => .ret []
def aCons (a : Ev) (r : Av) : Av := fun ρ => .bind (a ρ) fun x => .bind (r ρ) fun xs => .ret (x :: xs)
def eTup (a : Av) : Ev := fun ρ => .bind (a ρ) fun xs => .guard (xs.length ≤ sizeLine) (.ret (.tup xs))
def eLst (a : Av) : Ev := fun ρ => .bind (a ρ) fun xs => .guard (xs.length ≤ sizeLine) (newL xs)

/-- what a body's context must be -/
structure GX (X : Cx) (G : GW) (W : WX) (k : Nat) : Prop where
  hK : X.K = G.K
  calm : X.calm = true
  nd : X.N.Nodup
  room : Room k X.A
  tk : Takes X W

section
variable {X : Cx} {G : GW} {W : WX} {a b c e : Expr} {pos : Pos} {fa fb : Ev} {ta tb : Tv} {k : Nat}
abbrev SE (X : Cx) (G : GW) (W : WX) (e : Expr) (f : Ev) : Prop := PE X e (tE G W f)
abbrev ST (X : Cx) (G : GW) (W : WX) (e : Expr) (f : Tv) : Prop := PT X e (tT G W f)
abbrev SA (X : Cx) (G : GW) (W : WX) (e : List Expr) (f : Av) : Prop := PA X e (tA G W f)

/-- a comparison of values, at one wish -/
def CmW (X : Cx) (G : GW) (W : WX) (f : Value → Value → Sem Value) (c : D → D → M Bool) : Prop :=
  ∀ (pins : List (Addr × Obj)) (s : Shared) (σ : St) (H : Hp) (x y : V) (v u : Value) (Q : Bool → Hp → Prop) (m : List Addr) (F : Hp) (S : Store) (d e : D), Inv X pins σ H s → RelV x v → RelV y u →
    Sim G m F S H → relD G m F d x → relD G m F e y → Run G W σ relB (c d e) m F S Q → wpAny (model X.prog X.w) X.A (f v u) (EP X pins σ fun z H' => ∃ k, z = .bl k ∧ Q k H') X.xe s
theorem CmS.w {f : Value → Value → Sem Value} {c : D → D → M Bool} (h : CmS X G f c) : CmW X G W f c := h W
theorem units200 (g : GX X G W k) : X.A.units + 200 < cLine := by have := g.room.un; omega

theorem se_slot {i : Nat} {x : Str} (hN : X.N[i]? = some x) (hv : Vis X.env.scope x) (hd : (x == ("__debug__" : Str)) = false) (hcd : (x == ("__classdict__" : Str)) = false) : SE X G W (.Name x pos) (eSlot i) := by
  refine PEimp (pe_var hN hv hd hcd) fun σ H Q h => ?_
  obtain ⟨m, F, ρ, S, s, e, r⟩ := h
  unfold eSlot at r
  split at r
  · rename_i d hd
    obtain ⟨v, h1, h2⟩ := e.get i d hd
    exact ⟨v, h1, r.ret s h2⟩
  · exact r.stuck.elim
theorem se_const {v : V} {d : D} (h : PE X e (tC v)) (hr : ∀ m F, relD G m F d v) : SE X G W e (eC d) := by
  refine PEimp h fun σ H Q h => ?_
  obtain ⟨m, F, ρ, S, s, e, r⟩ := h
  exact r.ret s (hr m F)
theorem se_int {i j} : SE X G W (.Constant (.int i) j pos) (eC (.int i)) := se_const pe_int fun _ _ => rfl
theorem se_bool {i j} : SE X G W (.Constant (.bool i) j pos) (eC (.bl i)) := se_const pe_bl fun _ _ => rfl
theorem se_none {j} : SE X G W (.Constant .none j pos) (eC .non) := se_const pe_non fun _ _ => rfl
theorem se_str {i j} : SE X G W (.Constant (.str i) j pos) (eC (.str i)) := se_const pe_str fun _ _ => rfl

/-- two parts, then an operation on their values -/
theorem bin2 {γ δ : Type} {rel : List Addr → Hp → γ → δ → Prop} {o : D → D → M γ} {σ : St} {H : Hp} {Q : δ → Hp → Prop} (h : tM G W rel (fun ρ => .bind (fa ρ) fun x => .bind (fb ρ) fun y => o x y) σ H Q) :
    tE G W fa σ H fun x H1 => tE G W fb σ H1 fun y H2 => ∃ m F S dx dy, Sim G m F S H2 ∧ relD G m F dx x ∧ relD G m F dy y ∧ Run G W σ rel (o dx dy) m F S Q := by
  obtain ⟨m, F, ρ, S, s, e, r⟩ := h
  refine ⟨m, F, ρ, S, s, e, r.bind.imp fun x H1 ⟨m1, F1, S1, d1, x1, s1, r1, h1⟩ => ?_⟩
  refine ⟨m1, F1, ρ, S1, s1, e.mono x1, h1.bind.imp fun y H2 ⟨m2, F2, S2, d2, x2, s2, r2, h2⟩ => ?_⟩
  exact ⟨m2, F2, S2, d1, d2, s2, r1.mono x2, r2, h2⟩
theorem se_op {op : Operator} {o : D → D → M D} (ho : OpS X G (binaryOp op) o) (ha : SE X G W a fa) (hb : SE X G W b fb) : SE X G W (.BinOp a op b pos) (eOp o fa fb) := by
  refine ⟨fun pins s σ H Q I h => ?_⟩
  refine wpAny_BinOp (binT ha hb I (bin2 h) fun v u s2 x y H2 I2 rx ry q => ?_)
  obtain ⟨m, F, S, dx, dy, s', hx, hy, r⟩ := q
  exact ho W pins s2 σ H2 x y v u Q m F S dx dy I2 rx ry s' hx hy r
theorem se_un {op : UnaryOp} {o : D → M D} (ho : UnS X G (unaryOp op) o) (ha : SE X G W a fa) : SE X G W (.UnaryOp op a pos) (eUn o fa) := by
  refine ⟨fun pins s σ H Q I h => ?_⟩
  refine UnaryOp_ (thn (ha.run pins s σ H _ I (tM.bind h)) fun v s1 ⟨x, H1, I1, r1, m, F, ρ, S, d, s', _, hx, r⟩ => ?_)
  exact ho W pins s1 σ H1 x v Q m F S d I1 r1 s' hx r
theorem se_cmp {op : CmpOp} {o : D → D → M Bool} (ho : CmW X G W (compareOp op) o) (ha : SE X G W a fa) (hb : SE X G W b fb) (hm : behindInMarks op b = false) : SE X G W (.Compare a [op] [b] pos) (eT (tCmp o fa fb)) := by
  refine ⟨fun pins s σ H Q I h => ?_⟩
  have h' : tM G W (relD G) (fun ρ => .bind (fa ρ) fun x => .bind (fb ρ) fun y => .bind (o x y) fun k => .ret (.bl k)) σ H Q := by
    obtain ⟨m, F, ρ, S, s, e, r⟩ := h
    refine ⟨m, F, ρ, S, s, e, ?_⟩
    simp only [eT, tCmp, M.bind_assoc] at r
    exact r
  refine wpAny_Compare1 (binT ha hb I (bin2 h') fun v u s2 x y H2 I2 rx ry q => ?_) hm
  obtain ⟨m, F, S, dx, dy, s', hx, hy, r⟩ := q
  refine thn (ho pins s2 σ H2 x y v u _ m F S dx dy I2 rx ry s' hx hy r.bind) fun w s3 ⟨z, H3, I3, rz, k, ez, m3, F3, S3, k', x3, s3', ek, r3⟩ => ?_
  subst ez
  cases ek
  exact ⟨.bl _, H3, I3, rz, r3.ret s3' rfl⟩
theorem st_cmp {op : CmpOp} {o : D → D → M Bool} (ho : CmW X G W (compareOp op) o) (ha : SE X G W a fa) (hb : SE X G W b fb) (hm : behindInMarks op b = false) : ST X G W (.Compare a [op] [b] pos) (tCmp o fa fb) := by
  refine ⟨fun pins s σ H Q I h => ?_⟩
  refine wpAny_isTrue_Compare1 (thn (ha.run pins s σ H _ I (bin2 h)) fun v s1 ⟨x, H1, I1, r1, q1⟩ => thn (hb.run pins s1 σ H1 _ I1 q1) fun u s2 ⟨y, H2, I2, r2, q2⟩ => ?_) hm
  obtain ⟨m, F, S, dx, dy, s', hx, hy, r⟩ := q2
  refine thn (ho pins s2 σ H2 x y v u _ m F S dx dy I2 r1 r2 s' hx hy r) fun w s3 ⟨z, H3, I3, rz, k, ez, q⟩ => ?_
  subst ez
  cases rz
  exact wpAny_truthy_bool ⟨H3, I3, q⟩

/-- the rest of a chain, behind its left value -/
inductive SCh (X : Cx) (G : GW) (W : WX) : List CmpOp → List Expr → Chn → Prop
  | last {op : CmpOp} {b : Expr} {o : D → D → M Bool} {f : Ev} : CmW X G W (compareOp op) o → SE X G W b f → SCh X G W [op] [b] (.last o f)
  | more {op op' : CmpOp} {ops : List CmpOp} {b b' : Expr} {bs : List Expr} {o : D → D → M Bool} {f : Ev} {r : Chn} : CmW X G W (compareOp op) o → SE X G W b f → SCh X G W (op' :: ops) (b' :: bs) r → SCh X G W (op :: op' :: ops) (b :: b' :: bs) (.more o f r)
theorem SCh.val {ops : List CmpOp} {bs : List Expr} {r : Chn} (hc : SCh X G W ops bs r) : ∀ {pins : List (Addr × Obj)} {s : Shared} {σ : St} {H : Hp} {Q : Bool → Hp → Prop} {x : V} {v : Value} {m : List Addr} {F : Hp} {S : Store} {ρ : En} {d : D}, Inv X pins σ H s → RelV x v → Sim G m F S H → relE G m F ρ σ → relD G m F d x → Run G W σ relB (r.run d ρ) m F S Q →
    wpAny (model X.prog X.w) X.A (compareChain pos v ops (evalEach bs X.env)) (EP X pins σ fun z H' => ∃ k, z = .bl k ∧ Q k H') X.xe s := by
  induction hc with
  | last ho hb =>
    intro pins s σ H Q x v m F S ρ d I rx s' he hx h
    refine chain_last (thn (hb.run pins s σ H _ I ⟨m, F, ρ, S, s', he, h.bind⟩) fun u s2 ⟨y, H2, I2, r2, m2, F2, S2, d2, x2, s2', hy, r⟩ => ?_)
    exact ho pins s2 σ H2 x y v u _ m2 F2 S2 d d2 I2 rx r2 s2' (hx.mono x2) hy r
  | more ho hb hr ih =>
    intro pins s σ H Q x v m F S ρ d I rx s' he hx h
    refine chain_link (thn (hb.run pins s σ H _ I ⟨m, F, ρ, S, s', he, h.bind⟩) fun u s2 ⟨y, H2, I2, r2, m2, F2, S2, d2, x2, s2', hy, r⟩ => ?_)
    refine thn (ho pins s2 σ H2 x y v u _ m2 F2 S2 d d2 I2 rx r2 s2' (hx.mono x2) hy r.bind) fun w s3 ⟨z, H3, I3, rz, k, ez, m3, F3, S3, k', x3, s3', ek, r3⟩ => ?_
    subst ez
    cases rz
    cases ek
    refine wpAny_truthy_bool ?_
    cases k with
    | true => exact ih I3 r2 s3' ((he.mono x2).mono x3) (hy.mono x3) r3
    | false => exact ⟨.bl false, H3, I3, rfl, _, rfl, r3.ret s3' rfl⟩
theorem SCh.tst {ops : List CmpOp} {bs : List Expr} {r : Chn} (hc : SCh X G W ops bs r) : ∀ {pins : List (Addr × Obj)} {s : Shared} {σ : St} {H : Hp} {Q : Bool → Hp → Prop} {x : V} {v : Value} {m : List Addr} {F : Hp} {S : Store} {ρ : En} {d : D}, Inv X pins σ H s → RelV x v → Sim G m F S H → relE G m F ρ σ → relD G m F d x → Run G W σ relB (r.run d ρ) m F S Q →
    wpAny (model X.prog X.w) X.A (testChain pos v ops (evalEach bs X.env)) (TP X pins σ Q) X.xe s := by
  induction hc with
  | last ho hb =>
    intro pins s σ H Q x v m F S ρ d I rx s' he hx h
    refine test_last (thn (hb.run pins s σ H _ I ⟨m, F, ρ, S, s', he, h.bind⟩) fun u s2 ⟨y, H2, I2, r2, m2, F2, S2, d2, x2, s2', hy, r⟩ => ?_)
    refine thn (ho pins s2 σ H2 x y v u _ m2 F2 S2 d d2 I2 rx r2 s2' (hx.mono x2) hy r) fun w s3 ⟨z, H3, I3, rz, k, ez, q⟩ => ?_
    subst ez
    cases rz
    exact wpAny_truthy_bool ⟨H3, I3, q⟩
  | more ho hb hr ih =>
    intro pins s σ H Q x v m F S ρ d I rx s' he hx h
    refine test_link (thn (hb.run pins s σ H _ I ⟨m, F, ρ, S, s', he, h.bind⟩) fun u s2 ⟨y, H2, I2, r2, m2, F2, S2, d2, x2, s2', hy, r⟩ => ?_)
    refine thn (ho pins s2 σ H2 x y v u _ m2 F2 S2 d d2 I2 rx r2 s2' (hx.mono x2) hy r.bind) fun w s3 ⟨z, H3, I3, rz, k, ez, m3, F3, S3, k', x3, s3', ek, r3⟩ => ?_
    subst ez
    cases rz
    cases ek
    refine wpAny_truthy_bool ?_
    cases k with
    | true => exact ih I3 r2 s3' ((he.mono x2).mono x3) (hy.mono x3) r3
    | false => exact ⟨H3, I3, r3.ret s3' rfl⟩
theorem eT_chn {f : Ev} {r : Chn} : eT (tChn f r) = fun ρ => M.bind (f ρ) fun x => M.bind (r.run x ρ) fun k => .ret (.bl k) := by
  funext ρ
  simp only [eT, tChn, M.bind_assoc]
theorem se_chn {op op' : CmpOp} {ops : List CmpOp} {b' : Expr} {bs : List Expr} {r : Chn} (ha : SE X G W a fa) (hc : SCh X G W (op :: op' :: ops) (b :: b' :: bs) r) (hm : lastMarks (op :: op' :: ops) (b :: b' :: bs) = false) : SE X G W (.Compare a (op :: op' :: ops) (b :: b' :: bs) pos) (eT (tChn fa r)) := by
  refine ⟨fun pins s σ H Q I h => ?_⟩
  rw [eT_chn] at h
  refine Compare_chain (thn (ha.run pins s σ H _ I (tM.bind h)) fun v s1 ⟨x, H1, I1, r1, m, F, ρ, S, d, s', he, hx, r⟩ => ?_) hm
  refine thn (hc.val I1 r1 s' he hx r.bind) fun w s3 ⟨z, H3, I3, rz, k, ez, m3, F3, S3, k', x3, s3', ek, r3⟩ => ?_
  subst ez
  cases ek
  exact ⟨.bl _, H3, I3, rz, r3.ret s3' rfl⟩
theorem st_chn {op op' : CmpOp} {ops : List CmpOp} {b' : Expr} {bs : List Expr} {r : Chn} (ha : SE X G W a fa) (hc : SCh X G W (op :: op' :: ops) (b :: b' :: bs) r) (hm : lastMarks (op :: op' :: ops) (b :: b' :: bs) = false) : ST X G W (.Compare a (op :: op' :: ops) (b :: b' :: bs) pos) (tChn fa r) := by
  refine ⟨fun pins s σ H Q I h => ?_⟩
  exact isTrue_chain (thn (ha.run pins s σ H _ I (tM.bind h)) fun v s1 ⟨x, H1, I1, r1, m, F, ρ, S, d, s', he, hx, r⟩ => hc.tst I1 r1 s' he hx r) hm

/-! ### truth, and, or, not, if -/
theorem st_val (g : GX X G W k) (ha : SE X G W a fa) (he : ∀ whole, isTrue a X.env whole = (do let v ← whole; standAt a.pos; holding [v] (truthy v))) : ST X G W a (tV fa) := by
  refine PTimp (pt_truth ha he) fun σ H Q h => ?_
  refine (tM.bind h).imp fun x H1 ⟨m, F, ρ, S, d, s', _, hx, r⟩ => ?_
  rw [g.hK]
  exact truth_ok r s' hx
theorem sw_and1 (ha : ST X G W a ta) : PW X (.BoolOp .And [a] pos) (tT G W ta) := pw_and1 ha
theorem sw_or1 (ha : ST X G W a ta) : PW X (.BoolOp .Or [a] pos) (tT G W ta) := pw_or1 ha
theorem sw_and {rest : List Expr} (ha : ST X G W a ta) (hb : PW X (.BoolOp .And (b :: rest) pos) (tT G W tb)) : PW X (.BoolOp .And (a :: b :: rest) pos) (tT G W (tAnd ta tb)) := by
  refine PWimp (pw_and ha hb) fun σ H Q h => ?_
  refine (tM.bind h).imp fun c H1 ⟨m, F, ρ, S, d, s', he, hx, r⟩ => ?_
  obtain rfl : d = _ := hx
  cases d with
  | true => exact ⟨m, F, ρ, S, s', he, r⟩
  | false => exact run_pred r s'
theorem sw_or {rest : List Expr} (ha : ST X G W a ta) (hb : PW X (.BoolOp .Or (b :: rest) pos) (tT G W tb)) : PW X (.BoolOp .Or (a :: b :: rest) pos) (tT G W (tOr ta tb)) := by
  refine PWimp (pw_or ha hb) fun σ H Q h => ?_
  refine (tM.bind h).imp fun c H1 ⟨m, F, ρ, S, d, s', he, hx, r⟩ => ?_
  obtain rfl : d = _ := hx
  cases d with
  | true => exact run_pred r s'
  | false => exact ⟨m, F, ρ, S, s', he, r⟩
theorem st_not (ha : ST X G W a ta) : ST X G W (.UnaryOp .Not a pos) (tNot ta) := by
  refine PTimp (pt_not ha) fun σ H Q h => ?_
  refine (tM.bind h).imp fun c H1 ⟨m, F, ρ, S, d, s', he, hx, r⟩ => ?_
  cases hx
  exact run_pred r s'
theorem se_one {op} (h : SE X G W a fa) : SE X G W (.BoolOp op [a] pos) fa := pe_one h
theorem se_and (g : GX X G W k) {rest : List Expr} (ha : SE X G W a fa) (hb : SE X G W (.BoolOp .And (b :: rest) pos) fb) : SE X G W (.BoolOp .And (a :: b :: rest) pos) (eAnd fa fb) := by
  refine PEimp (pe_andT ha hb) fun σ H Q h => ?_
  refine (tM.bind h).imp fun x H1 ⟨m, F, ρ, S, d, s', he, hx, r⟩ => ?_
  obtain ⟨k, t, q⟩ := truth_ok r.bind s' hx
  rw [← g.hK] at t
  obtain ⟨m2, F2, S2, k2, x2, s2, ek, r2⟩ := q
  obtain rfl : k2 = _ := ek
  refine ⟨k2, t, ?_⟩
  cases k2 with
  | true => exact ⟨m2, F2, ρ, S2, s2, he.mono x2, r2⟩
  | false => exact r2.ret s2 (hx.mono x2)
theorem se_or (g : GX X G W k) {rest : List Expr} (ha : SE X G W a fa) (hb : SE X G W (.BoolOp .Or (b :: rest) pos) fb) : SE X G W (.BoolOp .Or (a :: b :: rest) pos) (eOr fa fb) := by
  refine PEimp (pe_orT ha hb) fun σ H Q h => ?_
  refine (tM.bind h).imp fun x H1 ⟨m, F, ρ, S, d, s', he, hx, r⟩ => ?_
  obtain ⟨k, t, q⟩ := truth_ok r.bind s' hx
  rw [← g.hK] at t
  obtain ⟨m2, F2, S2, k2, x2, s2, ek, r2⟩ := q
  obtain rfl : k2 = _ := ek
  refine ⟨k2, t, ?_⟩
  cases k2 with
  | true => exact r2.ret s2 (hx.mono x2)
  | false => exact ⟨m2, F2, ρ, S2, s2, he.mono x2, r2⟩
theorem se_not (g : GX X G W k) (ha : SE X G W a fa) : SE X G W (.UnaryOp .Not a pos) (eT (tNot (tV fa))) := by
  refine PEimp (pe_notT ha) fun σ H Q h => ?_
  have h' : tE G W (fun ρ => .bind (fa ρ) fun x => .bind (truth x) fun k => .ret (.bl (!k))) σ H Q := by
    obtain ⟨m, F, ρ, S, s, e, r⟩ := h
    refine ⟨m, F, ρ, S, s, e, ?_⟩
    simp only [eT, tNot, tV, M.bind_assoc, M.ret_bind] at r
    exact r
  refine (tM.bind h').imp fun x H1 ⟨m, F, ρ, S, d, s', he, hx, r⟩ => ?_
  obtain ⟨k, t, q⟩ := truth_ok r.bind s' hx
  rw [← g.hK] at t
  obtain ⟨m2, F2, S2, k2, x2, s2, ek, r2⟩ := q
  obtain rfl : k2 = _ := ek
  exact ⟨k2, t, r2.ret s2 rfl⟩
theorem se_if (hc : ST X G W c ta) (ha : SE X G W a fa) (hb : SE X G W b fb) : SE X G W (.IfExp c a b pos) (eIf ta fa fb) := by
  refine PEimp (pe_ifExp hc ha hb) fun σ H Q h => ?_
  refine (tM.bind h).imp fun k H1 ⟨m, F, ρ, S, d, s', he, hx, r⟩ => ?_
  obtain rfl : d = _ := hx
  cases d with
  | true => exact ⟨m, F, ρ, S, s', he, r⟩
  | false => exact ⟨m, F, ρ, S, s', he, r⟩
theorem st_if {tc : Tv} (hc : ST X G W c tc) (ha : ST X G W a ta) (hb : ST X G W b tb) : ST X G W (.IfExp c a b pos) (tIf tc ta tb) := by
  refine ⟨fun pins s σ H Q I h => ?_⟩
  show wpAny _ _ (do if ← isTrue c X.env (eval c X.env) then isTrue a X.env (eval a X.env) else isTrue b X.env (eval b X.env)) _ _ _
  refine wpAny_bind (thn (hc.run pins s σ H _ I (tM.bind h)) fun k s1 ⟨H1, I1, m, F, ρ, S, d, s', he, hx, r⟩ => ?_)
  obtain rfl : d = _ := hx
  cases d with
  | true => exact ha.run pins s1 σ H1 Q I1 ⟨m, F, ρ, S, s', he, r⟩
  | false => exact hb.run pins s1 σ H1 Q I1 ⟨m, F, ρ, S, s', he, r⟩

/-! ### argument lists, displays -/
theorem sa_nil : SA X G W [] aNil := by
  refine PAimp pa_nil fun σ H Q h => ?_
  obtain ⟨m, F, ρ, S, s, e, r⟩ := h
  exact r.ret s rfl
theorem sa_cons {es : List Expr} {ga : Av} (ha : SE X G W a fa) (hr : SA X G W es ga) (hs : starEach (a :: es) X.env = (false, eval a X.env) :: starEach es X.env) : SA X G W (a :: es) (aCons fa ga) := by
  refine PAimp (pa_cons ha hr hs) fun σ H Q h => ?_
  refine (tM.bind h).imp fun x H1 ⟨m, F, ρ, S, d, s', he, hx, r⟩ => ?_
  refine ⟨m, F, ρ, S, s', he, r.bind.imp fun xs H2 ⟨m2, F2, S2, ds, x2, s2, hxs, r2⟩ => ?_⟩
  exact r2.ret s2 ⟨x, xs, rfl, hx.mono x2, hxs⟩
theorem se_tup {es : List Expr} {x1} {ga : Av} (ha : SA X G W es ga) : SE X G W (.Tuple es x1 pos) (eTup ga) := by
  refine PEimp (pe_tup ha) fun σ H Q h => ?_
  refine (tM.bind h).imp fun xs H1 ⟨m, F, ρ, S, ds, s', he, hx, r⟩ => ?_
  obtain ⟨hl, r⟩ := r.guard
  exact ⟨by rw [← hx.length]; exact hl, run_tup r s' hx⟩
theorem se_lst {es : List Expr} {ga : Av} (ha : SA X G W es ga) : SE X G W (.List es pos) (eLst ga) := by
  refine PEimp (pe_lst ha) fun σ H Q h => ?_
  refine (tM.bind h).imp fun xs H1 ⟨m, F, ρ, S, ds, s', he, hx, r⟩ => ?_
  obtain ⟨hl, r⟩ := r.guard
  exact ⟨by rw [← hx.length]; exact hl, run_newL r s' hx⟩
end
end MP

/-! MPD: subscripts, slices, attributes, calls. -/
namespace MP
open PySem PySem.Spec PyProof.Rows L2

def keyD : D → Option Key
  | .int i => some (.inl i)
  | .str x => some (.inr x)
  | _ => none
/-- the entry of a key -/
def valD (kvs : List (Key × D)) (k : Key) : Option D := (kvs.find? fun kv => decide (kv.1 = k)).map (·.2)
def putD (kvs : List (Key × D)) (k : Key) (v : D) : List (Key × D) :=
  if kvs.any (fun kv => decide (kv.1 = k)) then kvs.map fun kv => if kv.1 = k then (kv.1, v) else kv else kvs ++ [(k, v)]
def optM {α : Type} : Option α → M α
  | some a => .ret a
  | none => .stuck
/-- o[i] -/
def oIx : D → D → M D
  | .tup xs, .int i => optM (atI xs i)
  | .flst xs, .int i => optM (atI xs i)
  | .str z, .int i => .guard (z.length ≤ sizeLine) (optM ((atI z.cps.toList i).map fun c => .str ⟨#[c]⟩))
  | .ref r, y => fun S => match S[r]? with
    | some (.lst xs) => (match y with
      | .int i => (match atI xs i with
        | some d => some (.ok d S)
        | none => none)
      | _ => none)
    | some (.dct kvs) => (match keyD y with
      | some k => (match valD kvs k with
        | some d => some (.ok d S)
        | none => none)
      | none => none)
    | _ => none
  | _, _ => .stuck
section
variable {X : Cx} {G : GW} {W : WX} {σ : St} {m : List Addr} {F : Hp} {S : Store} {H : Hp}
theorem run_opt {α β : Type} {rel : List Addr → Hp → α → β → Prop} {o : Option α} {Q : β → Hp → Prop} (h : Run G W σ rel (optM o) m F S Q) (s : Sim G m F S H) : ∃ a, o = some a ∧ ∀ b, rel m F a b → Q b H := by
  cases o with
  | none => exact h.stuck.elim
  | some a => exact ⟨a, rfl, fun b r => h.ret s r⟩
theorem atI_rel {ds : List D} {vs : List V} {i : Int} {d : D} (r : relDs G m F ds vs) (h : atI ds i = some d) : ∃ v, atI vs i = some v ∧ relD G m F d v := by
  unfold atI at h ⊢
  obtain ⟨j, h1, h2⟩ := Option.bind_eq_some_iff.mp h
  obtain ⟨v, h3, h4⟩ := r.get h2
  exact ⟨v, by rw [← r.length, h1]; exact h3, h4⟩
theorem keyD_kV {d : D} {k : Key} {v : V} (h : keyD d = some k) (r : relD G m F d v) : v = kV k := by
  cases d with
  | int i => cases h; exact r
  | str x => cases h; exact r
  | _ => cases h
theorem valD_rel : ∀ {kvs : List (Key × D)} {ws : List (Key × V)} {k : Key}, kvs.map (·.1) = ws.map (·.1) → relDs G m F (kvs.map (·.2)) (ws.map (·.2)) → (valD kvs k = none ∧ valV ws k = none) ∨ ∃ d v, valD kvs k = some d ∧ valV ws k = some v ∧ relD G m F d v
  | [], [], k, _, _ => .inl ⟨rfl, rfl⟩
  | [], _ :: _, _, h, _ => by simp at h
  | _ :: _, [], _, h, _ => by simp at h
  | (a, d) :: kvs, (b, v) :: ws, k, h, r => by
    obtain ⟨v', ws', e, r1, r2⟩ := r
    simp only [List.map_cons, List.cons.injEq] at h e
    obtain ⟨h1, h2⟩ := h
    obtain ⟨e1, e2⟩ := e
    subst h1 e1 e2
    by_cases hk : a = k
    · refine .inr ⟨d, v, ?_, valV_pos hk, r1⟩
      simp [valD, List.find?_cons, hk]
    · rcases valD_rel (k := k) h2 r2 with ⟨q1, q2⟩ | ⟨d', v', q1, q2, q3⟩
      · refine .inl ⟨?_, by rw [valV_neg (by exact hk)]; exact q2⟩
        simp [valD, List.find?_cons, hk] at q1 ⊢
        exact q1
      · refine .inr ⟨d', v', ?_, by rw [valV_neg (by exact hk)]; exact q2, q3⟩
        simp [valD, List.find?_cons, hk] at q1 ⊢
        exact q1
theorem sub_dict {prog : Program} {w : World} {A : Around} {E : Value → Shared → Prop} {s : Shared} {value slice : Expr} {o i : Value} {Q : Value → Shared → Prop} (hT : s.TypeIs o "dict") (hs : subscripted slice false o i = operate [o, i] (getItem o i))
    (h : wpAny (model prog w) A (getItem o i) Q E s) : wpAny (model prog w) A (subscriptTail value slice o i) Q E s := by
  unfold subscriptTail
  refine wpAny_bind ?_
  rw [getitemInPython_of_ne hT.not_modules]
  refine wpAny_bind (wpAny_specialOf hT PySem.F.slot_dict_getitem.lookup ?_)
  have fin : wpAny (model prog w) A (subscripted slice false o i) (fun r s₃ => wpAny (model prog w) A (letTemporaryGo value o r >>= fun _ => pure r) Q E s₃) E s := by
    rw [hs]
    exact wpAny_operating (wpAny_mono h (fun r s₃ h₃ => wpAny_bind (wpAny_letTemporaryGo (wpAny_pure h₃))) fun _ _ x => x)
  first
    | exact wpAny_pure (wpAny_bind fin)
    | exact wpAny_bind (wpAny_pure (wpAny_bind fin))
    | exact wpAny_bind fin
theorem ix_ok {k : Nat} (g : GX X G W k) {value slice : Expr} {pins : List (Addr × Obj)} {s : Shared} {x y : V} {v u : Value} {Q : VK} {d e : D} (I : Inv X pins σ H s) (rx : RelV x v) (ry : RelV y u) (s' : Sim G m F S H) (hx : relD G m F d x) (hy : relD G m F e y)
    (h : Run G W σ (relD G) (oIx d e) m F S Q) (hs : subscripted slice false v u = operate [v, u] (getItem v u)) : wpAny (model X.prog X.w) X.A (subscriptTail value slice v u) (EP X pins σ Q) X.xe s := by
  cases d with
  | tup xs =>
    cases e with
    | int i =>
      obtain ⟨d', h1, h2⟩ := run_opt (show Run G W σ (relD G) (optM (atI xs i)) m F S Q from h) s'
      obtain ⟨a, vs, rfl, q1, q2⟩ := hx
      obtain ⟨v', h3, h4⟩ := atI_rel q2 h1
      cases hy
      exact ix_tup value slice pins s σ H _ _ v u Q I rx ry ⟨a, vs, i, v', rfl, rfl, by rw [g.hK]; exact s'.sqT q1, h3, h2 _ h4⟩ hs
    | _ => exact (Run.stuck (α := D) (rel := relD G) h).elim
  | flst xs =>
    cases e with
    | int i =>
      obtain ⟨d', h1, h2⟩ := run_opt (show Run G W σ (relD G) (optM (atI xs i)) m F S Q from h) s'
      obtain ⟨a, vs, rfl, q1, q2⟩ := hx
      obtain ⟨v', h3, h4⟩ := atI_rel q2 h1
      cases hy
      exact ix_list value slice pins s σ H _ _ v u Q I rx ry ⟨a, vs, i, v', rfl, rfl, by rw [g.hK]; exact s'.sqL q1, h3, h2 _ h4⟩ hs
    | _ => exact (Run.stuck (α := D) (rel := relD G) h).elim
  | str z =>
    cases e with
    | int i =>
      obtain ⟨hl, h⟩ := Run.guard (x := optM ((atI z.cps.toList i).map fun c => D.str ⟨#[c]⟩)) h
      obtain ⟨d', h1, h2⟩ := run_opt h s'
      obtain ⟨c, h3, rfl⟩ := Option.map_eq_some_iff.mp h1
      cases hx; cases hy
      exact ix_str value slice pins s σ H _ _ v u Q I rx ry ⟨z, i, c, rfl, rfl, hl, h3, h2 _ rfl⟩ hs
    | _ => exact (Run.stuck (α := D) (rel := relD G) h).elim
  | ref r =>
    obtain ⟨a, rfl, ha⟩ := hx
    obtain ⟨r', q, z⟩ := h
    unfold oIx at q
    simp only at q
    split at q
    · rename_i xs e1
      obtain ⟨vs, h1, h2⟩ := s'.cel _ a _ ha e1
      split at q
      · rename_i i
        split at q
        · rename_i d' h3
          cases q
          obtain ⟨v', h4, h5⟩ := atI_rel h2 h3
          cases hy
          exact ix_list value slice pins s σ H _ _ v u Q I rx ry ⟨a, vs, i, v', rfl, rfl, .of h1, h4, z m F H _ .refl s' h5⟩ hs
        · cases q
      · cases q
    · rename_i kvs e1
      obtain ⟨ws, h1, h2, h3⟩ := s'.cel _ a _ ha e1
      split at q
      · rename_i ky hk
        split at q
        · rename_i d' hd
          cases q
          obtain rfl := keyD_kV hk hy
          rcases valD_rel (k := ky) h2 h3 with ⟨q1, _⟩ | ⟨d2, v2, q1, q2, q3⟩
          · rw [hd] at q1; cases q1
          · rw [hd] at q1; cases q1
            have gt : DGet H a (kV ky) (some v2) := by rw [← q2]; exact DGet.k h1
            obtain rfl : v = Value.ref a := rx
            exact sub_dict (dict_typeIs I gt) hs (d_getItem (hu_of g.room) I gt ry fun w' s3 I3 rw' => ⟨v2, H, I3, rw', z m F H _ .refl s' q3⟩)
        · cases q
      · cases q
    · cases q
  | non => exact (Run.stuck (α := D) (rel := relD G) h).elim
  | bl _ => exact (Run.stuck (α := D) (rel := relD G) h).elim
  | int _ => exact (Run.stuck (α := D) (rel := relD G) h).elim
  | obj _ _ => exact (Run.stuck (α := D) (rel := relD G) h).elim
  | fn _ => exact (Run.stuck (α := D) (rel := relD G) h).elim
  | cls _ => exact (Run.stuck (α := D) (rel := relD G) h).elim
  | ty _ => exact (Run.stuck (α := D) (rel := relD G) h).elim
end
section
variable {X : Cx} {G : GW} {W : WX} {a b c e : Expr} {pos : Pos} {fa fb : Ev} {k : Nat}
theorem se_ix (g : GX X G W k) (ha : SE X G W a fa) (hb : SE X G W b fb) (hs : PlainIx b) : SE X G W (.Subscript a b pos) (eOp oIx fa fb) := by
  refine ⟨fun pins s σ H Q I h => ?_⟩
  refine Subscript_ (binT ha hb I (bin2 h) fun v u s2 x y H2 I2 rx ry q => ?_)
  obtain ⟨m, F, S, dx, dy, s', hx, hy, r⟩ := q
  exact ix_ok g I2 rx ry s' hx hy r (hs _ _)
end

/-! ### slices -/
def cutD (xs : List D) (lo hi : Option Int) : List D := (xs.drop (HT.sIx xs.length 0 lo)).take (HT.sIx xs.length xs.length hi - HT.sIx xs.length 0 lo)
def oCut : D → Option Int → Option Int → M D
  | .tup xs, lo, hi => .ret (.tup (cutD xs lo hi))
  | .flst xs, lo, hi => newL (cutD xs lo hi)
  | .ref r, lo, hi => .bind (getL r) fun xs => newL (cutD xs lo hi)
  | _, _, _ => .stuck
abbrev Ov := En → M (Option Int)
def pNone : Ov := fun _ => .ret none
def pSome (e : Ev) : Ov := fun ρ => .bind (e ρ) fun x => match x with
  | .int i => .ret (some i)
  | _ => .stuck
def eCut (a : Ev) (lo hi : Ov) : Ev := fun ρ => .bind (a ρ) fun x => .bind (lo ρ) fun l => .bind (hi ρ) fun h => oCut x l h
def relO {α : Type} : List Addr → Hp → α → α → Prop := fun _ _ a b => a = b
section
variable {X : Cx} {G : GW} {W : WX} {a b c e : Expr} {pos p2 : Pos} {fa fb : Ev} {k : Nat}
abbrev SO (X : Cx) (G : GW) (W : WX) (e : Option Expr) (f : Ov) : Prop := PO X e (tM G W relO f)
theorem so_none : SO X G W none pNone := by
  refine ⟨fun pins s σ H Q I h => po_none.run pins s σ H Q I ?_⟩
  obtain ⟨m, F, ρ, S, s', e, r⟩ := h
  exact r.ret s' rfl
theorem so_some (ha : SE X G W a fa) : SO X G W (some a) (pSome fa) := by
  refine ⟨fun pins s σ H Q I h => (po_some ha).run pins s σ H Q I ?_⟩
  refine (tM.bind h).imp fun x H1 ⟨m, F, ρ, S, d, s', he, hx, r⟩ => ?_
  cases d with
  | int i => cases hx; exact ⟨i, rfl, r.ret s' rfl⟩
  | _ => exact (Run.stuck (α := Option Int) (rel := relO) r).elim
theorem cut_rel {m : List Addr} {F : Hp} {ds : List D} {vs : List V} (r : relDs G m F ds vs) (lo hi : Option Int) : relDs G m F (cutD ds lo hi) (cutV vs lo hi) := by
  unfold cutD cutV
  rw [r.length]
  exact (r.drop _).take _
theorem se_cut (g : GX X G W k) {lo hi : Option Expr} {fl fh : Ov} (ha : SE X G W a fa) (hl : SO X G W lo fl) (hh : SO X G W hi fh) : SE X G W (.Subscript a (.Slice lo hi none p2) pos) (eCut fa fl fh) := by
  have hr : SlR X (fun x lo hi H Q => rSlA X.K x lo hi H Q ∨ rSlL X.K x lo hi H Q) := SlR.or sl_tupA sl_list
  refine PEimp (pe_slice hr ha hl hh) fun σ H Q h => ?_
  obtain ⟨m, F, ρ, S, s, e, r⟩ := h
  refine ⟨m, F, ρ, S, s, e, r.bind.imp fun x H1 ⟨m1, F1, S1, d1, x1, s1, r1, h1⟩ => ?_⟩
  refine ⟨m1, F1, ρ, S1, s1, e.mono x1, h1.bind.imp fun l H2 ⟨m2, F2, S2, d2, x2, s2, r2, h2⟩ => ?_⟩
  refine ⟨m2, F2, ρ, S2, s2, (e.mono x1).mono x2, h2.bind.imp fun u H3 ⟨m3, F3, S3, d3, x3, s3, r3, h3⟩ => ?_⟩
  cases r2; cases r3
  have r4 := (r1.mono x2).mono x3
  cases d1 with
  | tup xs =>
    obtain ⟨ad, vs, rfl, q1, q2⟩ := r4
    refine .inl ⟨ad, vs, rfl, by rw [g.hK]; exact s3.sqT q1, fun ⟨e1, e2⟩ => ?_, fun _ => run_tup h3 s3 (cut_rel q2 _ _)⟩
    have ec : cutD xs l u = xs := by
      unfold cutD
      rw [q2.length, e1, e2]
      simp [← q2.length]
    have h3' : Run G W σ (relD G) (M.ret (.tup (cutD xs l u))) m3 F3 S3 Q := h3
    rw [ec] at h3'
    exact h3'.ret s3 ⟨ad, vs, rfl, q1, q2⟩
  | flst xs =>
    obtain ⟨ad, vs, rfl, q1, q2⟩ := r4
    exact .inr ⟨ad, vs, rfl, by rw [g.hK]; exact s3.sqL q1, run_newL h3 s3 (cut_rel q2 _ _)⟩
  | ref i =>
    obtain ⟨ad, rfl, q1⟩ := r4
    obtain ⟨xs, vs, _, q2, q3, h4⟩ := run_getL h3 s3 q1
    exact .inr ⟨ad, vs, rfl, .of q2, run_newL h4 s3 (cut_rel q3 _ _)⟩
  | non => exact (Run.stuck (α := D) (rel := relD G) h3).elim
  | bl _ => exact (Run.stuck (α := D) (rel := relD G) h3).elim
  | int _ => exact (Run.stuck (α := D) (rel := relD G) h3).elim
  | str _ => exact (Run.stuck (α := D) (rel := relD G) h3).elim
  | obj _ _ => exact (Run.stuck (α := D) (rel := relD G) h3).elim
  | fn _ => exact (Run.stuck (α := D) (rel := relD G) h3).elim
  | cls _ => exact (Run.stuck (α := D) (rel := relD G) h3).elim
  | ty _ => exact (Run.stuck (α := D) (rel := relD G) h3).elim
end
end MP

/-! MPE: the program's tables, attributes, calls, instances. -/
namespace MP
open PySem PySem.Spec PyProof.Rows L2

/-- what a module's name stands for -/
inductive GB where
  | fn (i : Nat) | cls (c : Nat) | int (i : Int) | free
/-- a class: its attributes in order, whether its instances never change behind __init__, its __init__, its methods -/
structure Cd where
  fields : List Str
  frozen : Bool
  init : Option Nat
  meths : List (Str × Nat)
/-- the calls that a body may make -/
structure Calls where
  fn : Nat → List D → M D
  new : Nat → List D → M D
/-- what becomes of a statement -/
inductive RS where
  | nx (ρ : En) (S : Store) | rt (d : D) (S : Store) | bk (ρ : En) (S : Store) | ct (ρ : En) (S : Store) | ex (e : Exn) (ρ : En) (S : Store)
abbrev Sv := En → Store → Option RS
/-- a function: its parameters, its names -/
structure Fd where
  ps : List Str
  N : List Str
structure Pg where
  gl : List (Str × GB)
  cls : List Cd
  fns : List Fd
def Pg.fields (Γ : Pg) (c : Nat) : List Str := match Γ.cls[c]? with
  | some cd => cd.fields
  | none => []

/-- the types of the values that are served -/
def bTypes : List String := ["NoneType", "bool", "int", "str", "list", "tuple", "dict"]
/-- the written part is as the tables tell -/
structure WF (Γ : Pg) (G : GW) (mg : Str → Option Value) : Prop where
  fields : G.fields = Γ.fields
  fn : ∀ x i, Γ.gl.lookup x = some (.fn i) → mg x = some (.ref (G.fnA i)) ∧ PySem.W.keepIn G.K (.ref (G.fnA i)) = true
  cl : ∀ x c, Γ.gl.lookup x = some (.cls c) → mg x = some (.ref (G.clA c))
  int : ∀ x i, Γ.gl.lookup x = some (.int i) → ∃ t, mg x = some (.int i t)
  free : ∀ x, Γ.gl.lookup x = some .free → mg x = none
  cls : ∀ c cd, Γ.cls[c]? = some cd → Cls G.K (G.clA c)
  noat : ∀ c f, f ∈ Γ.fields c → NoAttr G.K (G.clA c) f
  ini : ∀ c cd i, Γ.cls[c]? = some cd → cd.init = some i → Mk G.K (G.clA c) (G.fnA i)
  cly : ∀ c cd, Γ.cls[c]? = some cd → PySem.W.findIn G.K (.ref (G.clA c)) "__class__" = some (some (.builtin "object.__class__")) ∧ PySem.W.mroIn G.K (G.clA c) (.type "object") = some true
  clz : PySem.W.specialIn G.K (.builtin "object.__class__") "__get__" = some (some (.builtin "getset_descriptor.__get__")) ∧ PySem.W.takesIn G.K (.builtin "object.__class__") = some true
  isC : ∀ c c' cd cd', Γ.cls[c]? = some cd → Γ.cls[c']? = some cd' → PySem.W.kitOne G.K (.ref (G.clA c)) (.ref (G.clA c')) = some (c == c')
  sub : ∀ c c' cd cd', Γ.cls[c]? = some cd → Γ.cls[c']? = some cd' → c ≠ c' → PySem.W.subIn G.K (.ref (G.clA c')) (.ref (G.clA c)) = some false
  isT : ∀ c cd T, Γ.cls[c]? = some cd → T ∈ bTypes → PySem.W.kitOne G.K (.ref (G.clA c)) (.type T) = some false ∧ PySem.W.kitOne G.K (.type T) (.ref (G.clA c)) = some false
  meth : ∀ c cd mt i, Γ.cls[c]? = some cd → cd.meths.lookup mt = some i → Meth G.K (G.clA c) mt (G.fnA i) ∧ mt ∉ cd.fields

/-! ### below: no cell from n on is named -/
mutual
def belowD (n : Nat) : D → Prop
  | .ref i => i < n
  | .tup xs | .flst xs | .obj _ xs => belowDs n xs
  | _ => True
def belowDs (n : Nat) : List D → Prop
  | [] => True
  | d :: ds => belowD n d ∧ belowDs n ds
end
def belowC (n : Nat) : Cell → Prop
  | .lst xs => belowDs n xs
  | .dct kvs => belowDs n (kvs.map (·.2))
  | .obj _ fs => belowDs n (fs.map (·.2))
def Closed (n : Nat) (S : Store) : Prop := ∀ c ∈ S, belowC n c
section
variable {G : GW} {m : List Addr} {F : Hp}
mutual
theorem relD.below : ∀ {d : D} {v : V}, relD G m F d v → belowD m.length d
  | .ref _, _, ⟨_, _, h⟩ => (List.getElem?_eq_some_iff.mp h).1
  | .tup _, _, ⟨_, _, _, _, h⟩ => relDs.below h
  | .flst _, _, ⟨_, _, _, _, h⟩ => relDs.below h
  | .obj _ _, _, ⟨_, _, _, _, _, _, h⟩ => relDs.below h
  | .non, _, _ => trivial
  | .bl _, _, _ => trivial
  | .int _, _, _ => trivial
  | .str _, _, _ => trivial
  | .fn _, _, _ => trivial
  | .cls _, _, _ => trivial
  | .ty _, _, _ => trivial
theorem relDs.below : ∀ {ds : List D} {vs : List V}, relDs G m F ds vs → belowDs m.length ds
  | [], _, _ => trivial
  | _ :: _, _, ⟨_, _, _, h1, h2⟩ => ⟨relD.below h1, relDs.below h2⟩
end
theorem take_at {m : List Addr} {n i : Nat} (h : i < n) : (m.take n)[i]? = m[i]? := by rw [List.getElem?_take, if_pos h]
mutual
theorem relD.cut {n : Nat} : ∀ {d : D} {v : V}, relD G m F d v → belowD n d → relD G (m.take n) F d v
  | .ref _, _, ⟨a, e, h⟩, b => ⟨a, e, by rw [take_at b]; exact h⟩
  | .tup _, _, ⟨a, vs, e, h1, h⟩, b => ⟨a, vs, e, h1, relDs.cut h b⟩
  | .flst _, _, ⟨a, vs, e, h1, h⟩, b => ⟨a, vs, e, h1, relDs.cut h b⟩
  | .obj _ _, _, ⟨a, dx, fs, e, h1, h2, h⟩, b => ⟨a, dx, fs, e, h1, h2, relDs.cut h b⟩
  | .non, _, h, _ => h
  | .bl _, _, h, _ => h
  | .int _, _, h, _ => h
  | .str _, _, h, _ => h
  | .fn _, _, h, _ => h
  | .cls _, _, h, _ => h
  | .ty _, _, h, _ => h
theorem relDs.cut {n : Nat} : ∀ {ds : List D} {vs : List V}, relDs G m F ds vs → belowDs n ds → relDs G (m.take n) F ds vs
  | [], _, h, _ => h
  | _ :: _, _, ⟨v, r, e, h1, h2⟩, ⟨b1, b2⟩ => ⟨v, r, e, relD.cut h1 b1, relDs.cut h2 b2⟩
end
theorem relC.below {c : Cell} {o : Option HO} (h : relC G m F c o) : belowC m.length c := by
  cases c with
  | lst _ => obtain ⟨_, _, h⟩ := h; exact h.below
  | dct _ => obtain ⟨_, _, _, h⟩ := h; exact h.below
  | obj _ _ => obtain ⟨_, _, _, _, h⟩ := h; exact h.below
theorem relC.cut {n : Nat} {c : Cell} {o : Option HO} (h : relC G m F c o) (b : belowC n c) : relC G (m.take n) F c o := by
  cases c with
  | lst _ => obtain ⟨vs, e, h⟩ := h; exact ⟨vs, e, h.cut b⟩
  | dct _ => obtain ⟨ws, e, e2, h⟩ := h; exact ⟨ws, e, e2, h.cut b⟩
  | obj _ _ => obtain ⟨dx, ws, e, e2, h⟩ := h; exact ⟨dx, ws, e, e2, h.cut b⟩
theorem Sim.closed {S : Store} {H : Hp} (s : Sim G m F S H) : Closed S.length S := fun c hc => by
  obtain ⟨i, hi, e⟩ := List.getElem_of_mem hc
  obtain ⟨a, _, h⟩ := s.at' (i := i) (c := c) (by rw [List.getElem?_eq_getElem hi, e])
  rw [← s.len]
  exact h.below
theorem Sim.cut {S : Store} {H : Hp} {n : Nat} (s : Sim G m F S H) (hc : Closed n (S.take n)) : Sim G (m.take n) F (S.take n) H := by
  refine ⟨s.sub, s.nod.sublist (List.take_sublist _ _), by simp [s.len], fun a ha => s.fre a (List.mem_of_mem_take ha), fun i a c h1 h2 => ?_⟩
  have hi : i < n := by
    have := (List.getElem?_eq_some_iff.mp h1).1
    simp at this; omega
  have h1' : m[i]? = some a := by rw [take_at hi] at h1; exact h1
  have h2' : S[i]? = some c := by rw [List.getElem?_take, if_pos hi] at h2; exact h2
  exact (s.cel i a c h1' h2').cut (hc c (List.mem_of_getElem? h2))
theorem Ext.cut {m' : List Addr} {F' : Hp} {n : Nat} (e : Ext m F m' F') (h : m.length = n) : Ext m F (m'.take n) F' := ⟨fun i a q => by
  rw [take_at (by rw [← h]; exact (List.getElem?_eq_some_iff.mp q).1)]
  exact e.pre i a q, e.sub⟩
end
/-- may what lies from n on be forgotten? -/
def mayCut (S S' : Store) : Prop := S'.take S.length = S ∨ Closed S.length (S'.take S.length)
open Classical in
/-- a call's end: what it made and nobody names is forgotten -/
noncomputable def dropR (S : Store) (d : D) (S' : Store) : Store := if S'.length ≤ S.length then S' else if mayCut S S' ∧ belowD S.length d then S'.take S.length else S'
section
variable {G : GW} {m m' : List Addr} {F F' : Hp} {S S' : Store} {H H' : Hp} {d : D}
theorem Sim.mayCut (s : Sim G m F S H) (h : MP.mayCut S S') : Closed S.length (S'.take S.length) := by
  rcases h with h | h
  · rw [h]; exact s.closed
  · exact h
theorem dropR_ok (s : Sim G m F S H) (e : Ext m F m' F') (s' : Sim G m' F' S' H') {v : V} (r : relD G m' F' d v) : ∃ m2, Ext m F m2 F' ∧ Sim G m2 F' (dropR S d S') H' ∧ relD G m2 F' d v := by
  unfold dropR
  split
  · exact ⟨m', e, s', r⟩
  · split
    · rename_i h
      exact ⟨m'.take S.length, e.cut s.len, s'.cut (s.mayCut h.1), r.cut h.2⟩
    · exact ⟨m', e, s', r⟩
theorem dropR_len (h : S'.length ≤ S.length) : dropR S d S' = S' := if_pos h
theorem dropR_pure (h : S'.take S.length = S) (b : belowD S.length d) : dropR S d S' = S := by
  unfold dropR
  split
  · rename_i hl
    rw [List.take_of_length_le hl] at h; exact h
  · rw [if_pos ⟨.inl h, b⟩]; exact h
theorem dropR_cut (h : Closed S.length (S'.take S.length)) (b : belowD S.length d) : dropR S d S' = S'.take S.length := by
  unfold dropR
  split
  · rename_i hl
    rw [List.take_of_length_le hl]
  · rw [if_pos ⟨.inr h, b⟩]
end
/-- a function's call, by its body -/
noncomputable def runF (f : Fd) (b : Calls → Sv) (C : Calls) (ds : List D) : M D := fun S =>
  if ds.length = f.ps.length then
    match b C (ds.map some ++ List.replicate (f.N.length - ds.length) none) S with
    | some (.rt d S') => some (.ok d (dropR S d S'))
    | some (.nx _ S') => some (.ok .non (dropR S .non S'))
    | some (.ex e _ S') => some (.ex e S')
    | _ => none
  else none
open Classical in
/-- a new instance -/
noncomputable def runMk (Γ : Pg) (fn : Nat → List D → M D) (c : Nat) (ds : List D) : M D := fun S => match Γ.cls[c]? with
  | some cd => (match cd.init with
    | some i => (match fn i (.ref S.length :: ds) (S ++ [.obj c []]) with
      | some (.ok .non S') => (match S'[S.length]? with
        | some (.obj c' fs) =>
          if cd.frozen then
            (if c' = c ∧ fs.map (·.1) = cd.fields ∧ S'.length = S.length + 1 ∧ belowDs S.length (fs.map (·.2)) ∧ mayCut S S' then some (.ok (.obj c (fs.map (·.2))) (S'.take S.length)) else none)
          else some (.ok (.ref S.length) S')
        | _ => none)
      | some (.ex e S') => some (.ex e S')
      | _ => none)
    | none => none)
  | none => none
noncomputable def callsAt (Γ : Pg) (bs : List (Calls → Sv)) : Nat → Calls
  | 0 => ⟨fun _ _ => .stuck, fun _ _ => .stuck⟩
  | k + 1 => ⟨fun i ds => match Γ.fns[i]?, bs[i]? with
      | some f, some b => runF f b (callsAt Γ bs k) ds
      | _, _ => .stuck, runMk Γ (callsAt Γ bs k).fn⟩

/-- a function's promise: what the interpreter's call says -/
def spF (G : GW) (x : List D → M D) (n : Nat) : Sp := fun vs H Q E => vs.length = n ∧ ∃ m F S ds, Sim G m F S H ∧ relDs G m F ds vs ∧ Run G (fun c d _ H' => E c d H') [] (relD G) (x ds) m F S Q
/-- the functions at level k are as fn tells -/
def FnsOk (Γ : Pg) (G : GW) (P : Program) (w : World) (mg : Str → Option Value) (base : Heap) (fn : Nat → List D → M D) (k : Nat) : Prop :=
  ∀ i f, Γ.fns[i]? = some f → ∃ fd, FnOk P w G.K mg base (CX P w) k (G.fnA i) fd f.ps (spF G (fn i) f.ps.length) ∧ Binds G.K fd f.ps []
/-- the calls that a body may make are as C tells -/
structure CallsOk (Γ : Pg) (G : GW) (P : Program) (w : World) (mg : Str → Option Value) (base : Heap) (C : Calls) (k : Nat) : Prop where
  fn : FnsOk Γ G P w mg base C.fn k
  new : (∀ c ds S, C.new c ds S = none) ∨ ∃ j fn, j + 1 ≤ k ∧ C.new = runMk Γ fn ∧ FnsOk Γ G P w mg base fn j
end MP

/-! MPF: attributes, calls of own functions, new instances: they are as told. -/
namespace MP
open PySem PySem.Spec PyProof.Rows L2

/-- o.f -/
def oFld (Γ : Pg) (f : Str) : D → M D
  | .obj c xs => optM (((Γ.fields c).zip xs).lookup f)
  | .ref r => fun S => match S[r]? with
    | some (.obj c fs) => if f ∈ Γ.fields c then (match fs.lookup f with
      | some d => some (.ok d S)
      | none => none) else none
    | _ => none
  | _ => .stuck
def eCall (C : Calls) (i n : Nat) (a : Av) : Ev := fun ρ => .bind (a ρ) fun ds => .guard (ds.length = n) (C.fn i ds)
def eNew (C : Calls) (c n : Nat) (a : Av) : Ev := fun ρ => .bind (a ρ) fun ds => .guard (ds.length = n) (C.new c ds)

section
variable {G : GW} {m : List Addr} {F : Hp}
theorem lookup_rel {f : Str} {d : D} : ∀ {ns : List Str} {ds : List D} {ws : List (Str × V)}, ws.map (·.1) = ns → relDs G m F ds (ws.map (·.2)) → (ns.zip ds).lookup f = some d → ∃ v, ws.lookup f = some v ∧ relD G m F d v
  | [], _, _, _, _, h => by simp at h
  | _ :: _, [], _, _, _, h => by simp at h
  | n :: ns, x :: ds, [], h, _, _ => by simp at h
  | n :: ns, x :: ds, (g, v) :: ws, hn, hr, h => by
    simp only [List.map_cons, List.cons.injEq] at hn
    obtain ⟨rfl, hn⟩ := hn
    obtain ⟨v', r, e, r1, r2⟩ := hr
    simp only [List.map_cons, List.cons.injEq] at e
    obtain ⟨rfl, rfl⟩ := e
    rw [List.zip_cons_cons, List.lookup_cons] at h
    rw [List.lookup_cons]
    cases q : (f == g) with
    | true => rw [q] at h; cases h; exact ⟨v, rfl, r1⟩
    | false => rw [q] at h; exact lookup_rel hn r2 h
theorem lookup_rel2 {f : Str} {d : D} : ∀ {fs : List (Str × D)} {ws : List (Str × V)}, fs.map (·.1) = ws.map (·.1) → relDs G m F (fs.map (·.2)) (ws.map (·.2)) → fs.lookup f = some d → ∃ v, ws.lookup f = some v ∧ relD G m F d v
  | [], _, _, _, h => by simp at h
  | (a, x) :: fs, [], h, _, _ => by simp at h
  | (a, x) :: fs, (g, v) :: ws, hn, hr, h => by
    simp only [List.map_cons, List.cons.injEq] at hn
    obtain ⟨rfl, hn⟩ := hn
    obtain ⟨v', r, e, r1, r2⟩ := hr
    simp only [List.map_cons, List.cons.injEq] at e
    obtain ⟨rfl, rfl⟩ := e
    rw [List.lookup_cons] at h ⊢
    cases q : (f == a) with
    | true => rw [q] at h; cases h; exact ⟨v, rfl, r1⟩
    | false => rw [q] at h; exact lookup_rel2 hn r2 h
theorem lookup_none2 {f : Str} : ∀ {fs : List (Str × D)} {ws : List (Str × V)}, fs.map (·.1) = ws.map (·.1) → fs.lookup f = none → ws.lookup f = none
  | [], [], _, _ => rfl
  | [], _ :: _, h, _ => by simp at h
  | _ :: _, [], h, _ => by simp at h
  | (a, x) :: fs, (g, v) :: ws, hn, h => by
    simp only [List.map_cons, List.cons.injEq] at hn
    obtain ⟨rfl, hn⟩ := hn
    rw [List.lookup_cons] at h ⊢
    cases q : (f == a) with
    | true => rw [q] at h; cases h
    | false => rw [q] at h; exact lookup_none2 hn h
theorem mem_of_zip_lookup {f : Str} {d : D} : ∀ {ns : List Str} {ds : List D}, (ns.zip ds).lookup f = some d → f ∈ ns
  | [], _, h => by simp at h
  | _ :: _, [], h => by simp at h
  | n :: ns, x :: ds, h => by
    rw [List.zip_cons_cons, List.lookup_cons] at h
    cases q : (f == n) with
    | true => exact List.mem_cons.mpr (.inl (beq_iff_eq.mp q))
    | false => rw [q] at h; exact List.mem_cons_of_mem _ (mem_of_zip_lookup h)
end

/-- the receiver is no super() -/
def plainBase : Expr → Bool
  | .Call (.Name _ _) [] [] _ => false
  | _ => true
theorem plainBase_eq {o : Expr} (h : plainBase o = true) (attr : Str) (env : Env) (whole : Sem Value) : attributeBase o attr env whole = whole := by
  unfold attributeBase
  split
  · cases h
  · rfl

/-- more of a body's context -/
structure GY (Γ : Pg) (X : Cx) (G : GW) (W : WX) (C : Calls) (k : Nat) : Prop extends GX X G W k where
  wf : WF Γ G X.mg
  calls : CallsOk Γ G X.prog X.w X.mg X.base C k

section
variable {Γ : Pg} {X : Cx} {G : GW} {W : WX} {C : Calls} {a b c e : Expr} {pos : Pos} {fa fb : Ev} {k : Nat}

theorem fld_ok (g : GY Γ X G W C k) {f : Str} {b : Bool} {σ : St} {H : Hp} {pins : List (Addr × Obj)} {s : Shared} {x : V} {v : Value} {Q : VK} {m : List Addr} {F : Hp} {S : Store} {d : D} (I : Inv X pins σ H s) (rx : RelV x v) (s' : Sim G m F S H) (hx : relD G m F d x) (h : Run G W σ (relD G) (oFld Γ f d) m F S Q) :
    wpAny (model X.prog X.w) X.A (getAttr v f b) (EP X pins σ Q) X.xe s := by
  cases d with
  | obj c xs =>
    obtain ⟨d', h1, h2⟩ := run_opt (show Run G W σ (relD G) (optM (((Γ.fields c).zip xs).lookup f)) m F S Q from h) s'
    obtain ⟨a, dx, fs, rfl, q1, q2, q3⟩ := hx
    rw [g.wf.fields] at q2
    obtain ⟨w, h3, h4⟩ := lookup_rel q2 q3 h1
    have hc : ∃ cd, Γ.cls[c]? = some cd := by
      have hm := mem_of_zip_lookup h1
      unfold Pg.fields at hm
      split at hm
      · rename_i cd hcd; exact ⟨cd, hcd⟩
      · cases hm
    obtain ⟨cd, hcd⟩ := hc
    have cl := g.wf.cls c cd hcd
    have na := g.wf.noat c f (mem_of_zip_lookup h1)
    rw [← g.hK] at cl na
    obtain rfl : v = Value.ref a := rx
    exact getattr_ok I (s'.sub _ _ q1) cl na h3 fun u s2 I2 ru => ⟨w, H, I2, ru, h2 _ h4⟩
  | ref r =>
    obtain ⟨a, rfl, ha⟩ := hx
    obtain ⟨r', q, z⟩ := h
    unfold oFld at q
    simp only at q
    split at q
    · rename_i c fs e1
      obtain ⟨dx, ws, h1, h2, h3⟩ := s'.cel _ a _ ha e1
      split at q
      · rename_i hf
        split at q
        · rename_i d' hd
          cases q
          obtain ⟨w, h4, h5⟩ := lookup_rel2 h2 h3 hd
          have hc : ∃ cd, Γ.cls[c]? = some cd := by
            unfold Pg.fields at hf
            split at hf
            · rename_i cd hcd; exact ⟨cd, hcd⟩
            · cases hf
          obtain ⟨cd, hcd⟩ := hc
          have cl := g.wf.cls c cd hcd
          have na := g.wf.noat c f hf
          rw [← g.hK] at cl na
          obtain rfl : v = Value.ref a := rx
          exact getattr_ok I h1 cl na h4 fun u s2 I2 ru => ⟨w, H, I2, ru, z m F H _ .refl s' h5⟩
        · cases q
      · cases q
    · cases q
  | non => exact (Run.stuck (α := D) (rel := relD G) h).elim
  | bl _ => exact (Run.stuck (α := D) (rel := relD G) h).elim
  | int _ => exact (Run.stuck (α := D) (rel := relD G) h).elim
  | str _ => exact (Run.stuck (α := D) (rel := relD G) h).elim
  | tup _ => exact (Run.stuck (α := D) (rel := relD G) h).elim
  | flst _ => exact (Run.stuck (α := D) (rel := relD G) h).elim
  | fn _ => exact (Run.stuck (α := D) (rel := relD G) h).elim
  | cls _ => exact (Run.stuck (α := D) (rel := relD G) h).elim
  | ty _ => exact (Run.stuck (α := D) (rel := relD G) h).elim
theorem se_fld (g : GY Γ X G W C k) {f : Str} (ha : SE X G W a fa) (hb : plainBase a = true) : SE X G W (.Attribute a f pos) (eUn (oFld Γ f) fa) := by
  refine ⟨fun pins s σ H Q I h => ?_⟩
  exact attr_of (plainBase_eq hb _ _ _) (thn (ha.run pins s σ H _ I (tM.bind h)) fun v s1 ⟨x, H1, I1, r1, m, F, ρ, S, d, s', _, hx, r⟩ => fld_ok g I1 r1 s' hx r)

/-- a function runs -/
theorem fn_run {j : Nat} {fn : Nat → List D → M D} (fo : FnsOk Γ G X.prog X.w X.mg X.base fn j) (hr : Room j X.A) (tk : Takes X W) (hK : X.K = G.K) {i : Nat} {f : Fd} (hf : Γ.fns[i]? = some f) {σ : St} {H : Hp} {pins : List (Addr × Obj)} {s : Shared} {us : List Value} {vs : List V} {Q : VK} {m : List Addr} {F : Hp} {S : Store} {ds : List D}
    (I : Inv X pins σ H s) (rv : Vals vs us) (s' : Sim G m F S H) (hx : relDs G m F ds vs) (hl : ds.length = f.ps.length) (h : Run G W σ (relD G) (fn i ds) m F S Q) : wpAny (model X.prog X.w) X.A (call (.ref (G.fnA i)) us) (EP X pins σ Q) X.xe s := by
  obtain ⟨fd, Fo, Bo⟩ := fo i f hf
  rw [← hK] at Fo Bo
  exact run_fnS (E := WE W) Fo hr Bo (passAt tk σ) I rv ⟨by rw [← hx.length]; exact hl, m, F, S, ds, s', hx, h⟩

theorem av_length {es : List Expr} : True := trivial
theorem se_call (g : GY Γ X G W C k) {x : Str} {p : Pos} {i : Nat} {f : Fd} {es : List Expr} {ga : Av} (hx : Γ.gl.lookup x = some (.fn i)) (hg : Gl X x) (hf : Γ.fns[i]? = some f) (ha : SA X G W (e :: es) ga) (hdb : (x == ("__debug__" : Str)) = false)
    (he : starEach (e :: es) X.env = (false, eval e X.env) :: starEach es X.env) (hpl : (backTo pos (starEach es X.env)).any (·.1) = false) : SE X G W (.Call (.Name x p) (e :: es) [] pos) (eCall C i f.ps.length ga) := by
  refine ⟨fun pins s σ H Q I h => ?_⟩
  obtain ⟨hm, hk⟩ := g.wf.fn x i hx
  rw [← g.hK] at hk
  refine wpAny_Call_Name_kw (ld_glob I hg hm ?_ hdb)
  refine PySem.W.callWith_K (h₀ := X.base) I.ok.mod.kin hk (thn (ha.run pos pins s σ H _ I (tM.bind h)) fun us s1 ⟨vs, H1, I1, rv, m, F, ρ, S, ds, s', _, hxs, r⟩ => ⟨I1.kIn, ?_⟩) he hpl
  obtain ⟨hl, r⟩ := r.guard
  exact fn_run g.calls.fn g.room g.tk g.hK hf I1 rv s' hxs hl r
theorem se_call0 (g : GY Γ X G W C k) {x : Str} {p : Pos} {i : Nat} {f : Fd} (hx : Γ.gl.lookup x = some (.fn i)) (hg : Gl X x) (hf : Γ.fns[i]? = some f) (hdb : (x == ("__debug__" : Str)) = false) : SE X G W (.Call (.Name x p) [] [] pos) (eCall C i f.ps.length aNil) := by
  refine ⟨fun pins s σ H Q I h => ?_⟩
  obtain ⟨hm, hk⟩ := g.wf.fn x i hx
  rw [← g.hK] at hk
  refine wpAny_Call_Name_kw (ld_glob I hg hm ?_ hdb)
  obtain ⟨m, F, ρ, S, s', _, r⟩ := h
  have r : Run G W σ (relD G) (.guard ([].length = f.ps.length) (C.fn i [])) m F S Q := r
  obtain ⟨hl, r⟩ := r.guard
  exact PySem.W.callWith_K0 I.kIn hk (fn_run (us := []) (vs := []) g.calls.fn g.room g.tk g.hK hf I .nil s' relDs.nil hl r)

/-- an instance is made -/
theorem new_run (g : GY Γ X G W C k) {c : Nat} {cd : Cd} {i : Nat} {f : Fd} (hc : Γ.cls[c]? = some cd) (hi : cd.init = some i) (hf : Γ.fns[i]? = some f) {σ : St} {H : Hp} {pins : List (Addr × Obj)} {s : Shared} {us : List Value} {vs : List V} {Q : VK} {m : List Addr} {F : Hp} {S : Store} {ds : List D}
    (I : Inv X pins σ H s) (rv : Vals vs us) (s' : Sim G m F S H) (hx : relDs G m F ds vs) (hl : ds.length + 1 = f.ps.length) (h : Run G W σ (relD G) (C.new c ds) m F S Q) : wpAny (model X.prog X.w) X.A (call (.ref (G.clA c)) us) (EP X pins σ Q) X.xe s := by
  obtain ⟨r, q, h⟩ := h
  rcases g.calls.new with n | ⟨j, fn, hj, n, fo⟩
  · rw [n] at q; cases q
  rw [n] at q
  obtain ⟨fd, Fo, Bo⟩ := fo i f hf
  rw [← g.hK] at Fo Bo
  have mk := g.wf.ini c cd i hc hi
  rw [← g.hK] at mk
  -- run_make of the library, with the wish at the caller's slots
  have hn1 := I.hok.fresh (Nat.le_succ s.heap.objs.size)
  have hn0 := I.hok.fresh (Nat.le_refl s.heap.objs.size)
  have I2 := Inv.made (C := G.clA c) I
  have x0 := s'.newF (p := s.heap.objs.size) (o := .own (s.heap.objs.size + 1)) hn0
  generalize hF1 : upd F s.heap.objs.size (.own (s.heap.objs.size + 1)) = F1 at x0
  have x1 := x0.1.newC (p := s.heap.objs.size + 1) (o := .ins (G.clA c) s.heap.objs.size []) (c := .obj c []) (by rw [upd_ne (Nat.succ_ne_self _)]; exact hn1) ⟨s.heap.objs.size, [], rfl, rfl, rfl⟩
  have e01 : Ext m F (m ++ [s.heap.objs.size + 1]) F1 := x0.2.trans x1.2
  have hxs : relDs G (m ++ [s.heap.objs.size + 1]) F1 (.ref S.length :: ds) (V.ref (s.heap.objs.size + 1) :: vs) := .cons ⟨_, rfl, by rw [← s'.len]; simp⟩ (hx.mono e01)
  have r2 : Vals (V.ref (s.heap.objs.size + 1) :: vs) (Value.ref (s.heap.objs.size + 1) :: us) := .cons rfl rv
  unfold runMk at q
  rw [hc] at q
  simp only [hi] at q
  cases ei : fn i (.ref S.length :: ds) (S ++ [.obj c []]) with
  | none => rw [ei] at q; cases q
  | some ri =>
    rw [ei] at q
    have sp : spF G (fn i) f.ps.length (V.ref (s.heap.objs.size + 1) :: vs) (upd (upd H s.heap.objs.size (.own (s.heap.objs.size + 1))) (s.heap.objs.size + 1) (.ins (G.clA c) s.heap.objs.size [])) (fun v H2 => v = .non ∧ Q (.ref (s.heap.objs.size + 1)) H2) (WE W σ) := by
      refine ⟨by rw [← hxs.length, List.length_cons]; exact hl, _, _, _, _, x1.1, hxs, ri, ei, ?_⟩
      cases ri with
      | ex e S' =>
        simp only at q
        cases q
        exact fun m' F' H' d ws h1 h2 h3 h4 h5 => h m' F' H' d ws (e01.trans h1) h2 h3 h4 h5
      | ok dn S' =>
        cases dn with
        | non =>
          simp only at q
          intro m' F' H' b h1 h2 hb
          refine ⟨hb, ?_⟩
          have hml : m.length = S.length := s'.len
          have ha : m'[S.length]? = some (s.heap.objs.size + 1) := h1.pre _ _ (by rw [← hml]; simp)
          split at q
          · rename_i c' fs ec
            obtain ⟨dx, ws, e1, e2, e3⟩ := h2.cel _ _ _ ha ec
            split at q
            · -- frozen
              split at q
              · rename_i hcond
                obtain ⟨rfl, hfs, hlen, hbel, hcut⟩ := hcond
                cases q
                have hcl := s'.mayCut hcut
                have s3 := h2.cut (n := S.length) hcl
                have hnm : s.heap.objs.size + 1 ∉ m'.take S.length := fun z => by
                  obtain ⟨j2, hj2, ej⟩ := List.getElem_of_mem z
                  have hj3 : j2 < S.length := by simp at hj2; omega
                  have hj4 : m'[j2]? = some (s.heap.objs.size + 1) := by
                    have := List.getElem?_eq_getElem hj2
                    rw [ej, take_at hj3] at this; exact this
                  obtain ⟨l1, q1⟩ := List.getElem?_eq_some_iff.mp hj4
                  obtain ⟨l2, q2⟩ := List.getElem?_eq_some_iff.mp ha
                  have := (List.getElem_inj h2.nod).mp (q1.trans q2.symm)
                  omega
                have hFn : F' (s.heap.objs.size + 1) = none := h2.fre _ (List.mem_of_getElem? ha)
                have e3' := e3.cut hbel
                -- the instance is frozen
                have s4 : Sim G (m'.take S.length) (upd F' (s.heap.objs.size + 1) (.ins (G.clA c') dx ws)) (S'.take S.length) H' := by
                  refine ⟨fun a u qq => ?_, s3.nod, s3.len, fun a haa => ?_, fun i2 a cc g1 g2 => ?_⟩
                  · by_cases hz : a = s.heap.objs.size + 1
                    · subst hz; rw [upd_same] at qq; rw [e1]; exact qq
                    · rw [upd_ne hz] at qq; exact s3.sub a u qq
                  · rw [upd_ne (fun (z : a = s.heap.objs.size + 1) => hnm (z ▸ haa))]; exact s3.fre a haa
                  · exact (s3.cel i2 a cc g1 g2).mono ⟨fun _ _ z => z, fun a u qq => by rw [upd_ne (fun (z : a = _) => by rw [z, hFn] at qq; cases qq)]; exact qq⟩
                have eF : Ext m F (m'.take S.length) (upd F' (s.heap.objs.size + 1) (.ins (G.clA c') dx ws)) := by
                  have := (e01.trans h1).cut hml
                  exact ⟨this.pre, fun a u qq => by
                    have q3 := this.sub a u qq
                    rw [upd_ne (fun (z : a = _) => by rw [z, hFn] at q3; cases q3)]; exact q3⟩
                refine h _ _ H' _ eF s4 ⟨_, dx, ws, rfl, upd_same, ?_, ?_⟩
                · rw [← e2, hfs, g.wf.fields]
                  unfold Pg.fields
                  rw [hc]
                · exact e3'.mono ⟨fun _ _ z => z, fun a u qq => by rw [upd_ne (fun (z : a = _) => by rw [z, hFn] at qq; cases qq)]; exact qq⟩
              · cases q
            · cases q
              exact h m' F' H' _ (e01.trans h1) h2 ⟨_, rfl, ha⟩
          · cases q
        | _ => simp at q
    have hl2 : (Value.ref (s.heap.objs.size + 1) :: us).length = f.ps.length := by rw [← r2.length, ← hxs.length, List.length_cons]; exact hl
    have bo := Bo _ (Value.ref (s.heap.objs.size + 1) :: us) I2.kIn (by rw [List.append_nil]; exact hl2)
    rw [List.append_nil] at bo
    refine wpAny_call (make_map (f := G.fnA i) I.kIn mk.makes mk.init (beq_iff_eq.mp mk.fn) (codeAny_mono (Fo.run _ X.stack _ _ ⟨Value.ref (s.heap.objs.size + 1) :: us, []⟩ _ _ _ (WE W σ) ((g.room.mono hj).make (G.clA c) us []) (I2.env0.make (G.clA c) us []) bo r2 sp) fun r s2 hq' => ?_))
    cases r with
    | error e => exact passAt g.tk σ pins _ _ e s2 I2 hq'
    | ok fl =>
      cases fl with
      | ret u =>
        obtain ⟨v, H', I3, rv3, ev, q3⟩ := I2.after hq'
        subst ev
        exact ⟨rv3, ⟨V.ref (s.heap.objs.size + 1), H', I3, rfl, q3⟩⟩
      | next => exact False.elim hq'
      | brk => exact False.elim hq'
      | cont => exact False.elim hq'
theorem se_new (g : GY Γ X G W C k) {x : Str} {p : Pos} {c : Nat} {cd : Cd} {i : Nat} {f : Fd} {es : List Expr} {ga : Av} {n : Nat} (hx : Γ.gl.lookup x = some (.cls c)) (hg : Gl X x) (hc : Γ.cls[c]? = some cd) (hi : cd.init = some i) (hf : Γ.fns[i]? = some f) (hn : n + 1 = f.ps.length) (ha : SA X G W (e :: es) ga) (hdb : (x == ("__debug__" : Str)) = false)
    (he : starEach (e :: es) X.env = (false, eval e X.env) :: starEach es X.env) (hpl : (backTo pos (starEach es X.env)).any (·.1) = false) : SE X G W (.Call (.Name x p) (e :: es) [] pos) (eNew C c n ga) := by
  refine ⟨fun pins s σ H Q I h => ?_⟩
  have hm := g.wf.cl x c hx
  have mk := g.wf.ini c cd i hc hi
  rw [← g.hK] at mk
  refine wpAny_Call_Name_kw (ld_glob I hg hm ?_ hdb)
  refine PySem.W.callWith_K (h₀ := X.base) I.ok.mod.kin mk.kp (thn (ha.run pos pins s σ H _ I (tM.bind h)) fun us s1 ⟨vs, H1, I1, rv, m, F, ρ, S, ds, s', _, hxs, r⟩ => ⟨I1.kIn, ?_⟩) he hpl
  obtain ⟨hl, r⟩ := r.guard
  exact new_run g hc hi hf I1 rv s' hxs (by omega) r
theorem se_new0 (g : GY Γ X G W C k) {x : Str} {p : Pos} {c : Nat} {cd : Cd} {i : Nat} {f : Fd} (hx : Γ.gl.lookup x = some (.cls c)) (hg : Gl X x) (hc : Γ.cls[c]? = some cd) (hi : cd.init = some i) (hf : Γ.fns[i]? = some f) (hn : 0 + 1 = f.ps.length) (hdb : (x == ("__debug__" : Str)) = false) : SE X G W (.Call (.Name x p) [] [] pos) (eNew C c 0 aNil) := by
  refine ⟨fun pins s σ H Q I h => ?_⟩
  have hm := g.wf.cl x c hx
  have mk := g.wf.ini c cd i hc hi
  rw [← g.hK] at mk
  refine wpAny_Call_Name_kw (ld_glob I hg hm ?_ hdb)
  obtain ⟨m, F, ρ, S, s', _, r⟩ := h
  have r : Run G W σ (relD G) (.guard (([] : List D).length = 0) (C.new c [])) m F S Q := r
  obtain ⟨hl, r⟩ := r.guard
  exact PySem.W.callWith_K0 I.kIn mk.kp (new_run (us := []) (vs := []) g hc hi hf I .nil s' relDs.nil (by omega) r)

/-! ### module names as values -/
theorem se_glob (g : GY Γ X G W C k) {x : Str} {p : Pos} {i : Nat} (hx : Γ.gl.lookup x = some (.fn i)) (hg : Gl X x) (hdb : (x == ("__debug__" : Str)) = false) : SE X G W (.Name x p) (eC (.fn i)) :=
  se_const (pe_glob (v := .ref (G.fnA i)) hg (g.wf.fn x i hx).1 rfl hdb) fun _ _ => rfl
theorem se_gcls (g : GY Γ X G W C k) {x : Str} {p : Pos} {i : Nat} (hx : Γ.gl.lookup x = some (.cls i)) (hg : Gl X x) (hdb : (x == ("__debug__" : Str)) = false) : SE X G W (.Name x p) (eC (.cls i)) :=
  se_const (pe_glob (v := .ref (G.clA i)) hg (g.wf.cl x i hx) rfl hdb) fun _ _ => rfl
theorem se_gint (g : GY Γ X G W C k) {x : Str} {p : Pos} {i : Int} (hx : Γ.gl.lookup x = some (.int i)) (hg : Gl X x) (hdb : (x == ("__debug__" : Str)) = false) : SE X G W (.Name x p) (eC (.int i)) := by
  obtain ⟨t, h⟩ := g.wf.int x i hx
  exact se_const (pe_glob (v := .int i) hg h ⟨t, rfl⟩ hdb) fun _ _ => rfl
theorem se_gty (g : GY Γ X G W C k) {x : Str} {p : Pos} {n : String} (hx : Γ.gl.lookup x = some .free) (hg : Gl X x) (hv : bootBuiltins x = some (.type n)) (hn : x ≠ "__name__") (hdb : (x == ("__debug__" : Str)) = false) : SE X G W (.Name x p) (eC (.ty n)) :=
  se_const (pe_bltn (v := .ty n) hg (g.wf.free x hx) hv rfl hn hdb) fun _ _ => rfl
end
end MP

/-! MPG: built-in functions and methods. -/
namespace MP
open PySem PySem.Spec PyProof.Rows L2

/-! ### isinstance -/
inductive Ty where
  | b (T : String) | c (c : Nat)
def bSub (T n : String) : Option Bool := if bTypes.contains T && bTypes.contains n then some (T == n || (T == "bool" && n == "int")) else none
theorem bSub_ok {K : PySem.W.Frag} {T n : String} {r : Bool} (h : bSub T n = some r) : PySem.W.kitOne K (.type T) (.type n) = some r := by
  have all : ∀ T ∈ bTypes, ∀ n ∈ bTypes, kitB T n = some (T == n || (T == "bool" && n == "int")) := by decide +kernel
  unfold bSub at h
  split at h
  · rename_i hc
    rw [Bool.and_eq_true, List.contains_iff_mem, List.contains_iff_mem] at hc
    cases h
    exact kit_ty (all T hc.1 n hc.2)
  · cases h
def tyD (S : Store) : D → Option Ty
  | .non => some (.b "NoneType")
  | .bl _ => some (.b "bool")
  | .int _ => some (.b "int")
  | .str _ => some (.b "str")
  | .tup _ => some (.b "tuple")
  | .flst _ => some (.b "list")
  | .obj c _ => some (.c c)
  | .ref r => (match S[r]? with
    | some (.lst _) => some (.b "list")
    | some (.dct _) => some (.b "dict")
    | some (.obj c _) => some (.c c)
    | none => none)
  | _ => none
def isi1 (Γ : Pg) : Ty → D → Option Bool
  | .b T, .ty n => bSub T n
  | .b T, .cls c => if bTypes.contains T && decide (c < Γ.cls.length) then some false else none
  | .c c, .ty n => if bTypes.contains n && decide (c < Γ.cls.length) then some false else none
  | .c c, .cls c' => if decide (c < Γ.cls.length) && decide (c' < Γ.cls.length) then some (c == c') else none
  | _, _ => none
def isiAny (Γ : Pg) (t : Ty) : List D → Option Bool
  | [] => some false
  | c :: r => match isi1 Γ t c, isiAny Γ t r with
    | some b, some b' => some (b || b')
    | _, _ => none
def isiK (Γ : Pg) (t : Ty) : D → Option Bool
  | .tup [] => none
  | .tup cs => isiAny Γ t cs
  | c => isi1 Γ t c
def fIsi (Γ : Pg) (x c : D) : M D := fun S => match tyD S x with
  | some t => (match isiK Γ t c with
    | some b => some (.ok (.bl b) S)
    | none => none)
  | none => none
def Ty.val (G : GW) : Ty → Value
  | .b T => .type T
  | .c i => .ref (G.clA i)
section
variable {Γ : Pg} {X : Cx} {G : GW} {W : WX} {C : Calls} {σ : St} {m : List Addr} {F : Hp} {S : Store} {H : Hp} {k : Nat}
theorem cls_some {c : Nat} (h : c < Γ.cls.length) : ∃ cd, Γ.cls[c]? = some cd := ⟨Γ.cls[c], List.getElem?_eq_getElem h⟩
theorem tyD_ok {mg : Str → Option Value} (wf : WF Γ G mg) (s : Sim G m F S H) {d : D} {x : V} {t : Ty} (r : relD G m F d x) (h : tyD S d = some t) (hc : ∀ c, t = .c c → c < Γ.cls.length) : TyX G.K H x (t.val G) := by
  have own : ∀ {c a dx : Nat} {fs : List (Str × V)}, c < Γ.cls.length → H a = some (.ins (G.clA c) dx fs) → TyX G.K H (.ref a) (.ref (G.clA c)) := fun {c a dx fs} hl h1 => by
    obtain ⟨cd, e⟩ := cls_some hl
    obtain ⟨y1, y2⟩ := wf.cly c cd e
    exact .base (.ins h1 (wf.cls c cd e) y1 wf.clz.1 wf.clz.2 y2)
  cases d with
  | non => cases r; cases h; exact .base (by exact .non)
  | bl _ => cases r; cases h; exact .base (by exact .bl _)
  | int _ => cases r; cases h; exact .base (by exact .int _)
  | str _ => cases r; cases h; exact .base (by exact .str _)
  | tup _ =>
    cases h
    obtain ⟨a, vs, rfl, q, _⟩ := r
    rcases q with q | ⟨o, its, n, q1, q2, _⟩
    · exact .base (by exact .tup (s.sub _ _ q))
    · exact (TyX.kTuple q1 q2 : TyX G.K H _ (.type "tuple"))
  | flst _ =>
    cases h
    obtain ⟨a, vs, rfl, q, _⟩ := r
    rcases q with (q | ⟨o, q⟩) | ⟨o, its, n, q1, q2, _⟩
    · exact .base (by exact .lst (s.sub _ _ q))
    · exact .base (by exact .frz (s.sub _ _ q))
    · exact (TyX.kList q1 q2 : TyX G.K H _ (.type "list"))
  | obj c _ =>
    cases h
    obtain ⟨a, dx, fs, rfl, q, _⟩ := r
    exact own (hc c rfl) (s.sub _ _ q)
  | ref i =>
    obtain ⟨a, rfl, ha⟩ := r
    unfold tyD at h
    simp only at h
    split at h
    · rename_i e; cases h
      obtain ⟨vs, h1, _⟩ := s.cel _ a _ ha e
      exact .base (by exact .lst h1)
    · rename_i e; cases h
      obtain ⟨vs, h1, _⟩ := s.cel _ a _ ha e
      exact .base (by exact .dK h1)
    · rename_i c fs e; cases h
      obtain ⟨dx, vs, h1, _⟩ := s.cel _ a _ ha e
      exact own (hc c rfl) h1
    · cases h
  | fn _ => cases h
  | cls _ => cases h
  | ty _ => cases h
theorem isi1_ok {mg : Str → Option Value} (wf : WF Γ G mg) {t : Ty} {d : D} {v : V} {b : Bool} (h : isi1 Γ t d = some b) (r : relD G m F d v) : ∃ u, ClsV v u ∧ PySem.W.kitOne G.K (t.val G) u = some b := by
  unfold isi1 at h
  split at h
  · cases r; exact ⟨_, .ty _, bSub_ok h⟩
  · split at h
    · rename_i hc
      cases h
      rw [Bool.and_eq_true, List.contains_iff_mem, decide_eq_true_eq] at hc
      obtain ⟨cd, e⟩ := cls_some hc.2
      cases r
      exact ⟨_, .own _, (wf.isT _ cd _ e hc.1).2⟩
    · cases h
  · split at h
    · rename_i hc
      cases h
      rw [Bool.and_eq_true, List.contains_iff_mem, decide_eq_true_eq] at hc
      obtain ⟨cd, e⟩ := cls_some hc.2
      cases r
      exact ⟨_, .ty _, (wf.isT _ cd _ e hc.1).1⟩
    · cases h
  · split at h
    · rename_i hc
      cases h
      rw [Bool.and_eq_true, decide_eq_true_eq, decide_eq_true_eq] at hc
      obtain ⟨cd, e⟩ := cls_some hc.1
      obtain ⟨cd', e'⟩ := cls_some hc.2
      cases r
      exact ⟨_, .own _, wf.isC _ _ cd cd' e e'⟩
    · cases h
  · cases h
theorem isiAny_ok {mg : Str → Option Value} (wf : WF Γ G mg) {t : Ty} : ∀ {ds : List D} {vs : List V} {b : Bool}, isiAny Γ t ds = some b → relDs G m F ds vs → ∃ us, Paired ClsV vs us ∧ PySem.W.kitAny G.K (t.val G) us = some b
  | [], _, b, h, r => by
    cases h
    rw [show _ = [] from r]
    exact ⟨[], .nil, rfl⟩
  | d :: ds, _, b, h, ⟨v, vs, rfl, r1, r2⟩ => by
    unfold isiAny at h
    split at h
    · rename_i b1 b2 h1 h2
      cases h
      obtain ⟨u, c, e⟩ := isi1_ok wf h1 r1
      obtain ⟨us, cs, es⟩ := isiAny_ok wf h2 r2
      refine ⟨u :: us, .cons c cs, ?_⟩
      unfold PySem.W.kitAny
      rw [e]
      cases b1 with
      | true => rfl
      | false => exact es
    · cases h
theorem isi_lt {t : Ty} {d : D} {b : Bool} (h : isi1 Γ t d = some b) : ∀ c, t = .c c → c < Γ.cls.length := fun c e => by
  subst e
  cases d with
  | ty n =>
    have h : (if (bTypes.contains n && decide (c < Γ.cls.length)) = true then some false else none) = some b := h
    split at h
    · rename_i hc
      rw [Bool.and_eq_true, decide_eq_true_eq] at hc
      exact hc.2
    · cases h
  | cls c' =>
    have h : (if (decide (c < Γ.cls.length) && decide (c' < Γ.cls.length)) = true then some (c == c') else none) = some b := h
    split at h
    · rename_i hc
      rw [Bool.and_eq_true, decide_eq_true_eq, decide_eq_true_eq] at hc
      exact hc.1
    · cases h
  | _ => cases h
theorem isi_ok (g : GY Γ X G W C k) {pins : List (Addr × Obj)} {s : Shared} {x y : V} {v u : Value} {Q : VK} {d e : D} (I : Inv X pins σ H s) (rx : RelV x v) (ry : RelV y u) (s' : Sim G m F S H) (hx : relD G m F d x) (hy : relD G m F e y)
    (h : Run G W σ (relD G) (fIsi Γ d e) m F S Q) : wpAny (model X.prog X.w) X.A (call (.builtin "isinstance") [v, u]) (EP X pins σ Q) X.xe s := by
  obtain ⟨r, q, h⟩ := h
  unfold fIsi at q
  split at q
  · rename_i t ht
    split at q
    · rename_i b hb
      cases q
      have hq : Q (.bl b) H := h m F H _ .refl s' rfl
      have one : isi1 Γ t e = some b → wpAny (model X.prog X.w) X.A (call (.builtin "isinstance") [v, u]) (EP X pins σ Q) X.xe s := fun h1 => by
        obtain ⟨w, c, e1⟩ := isi1_ok g.wf h1 hy
        have ty := tyD_ok g.wf s' hx ht (isi_lt h1)
        rw [← g.hK] at ty e1
        exact call_isi pins s σ H [x, y] [v, u] Q I (.cons rx (.cons ry .nil)) ⟨x, y, _, w, b, rfl, c, ty, e1, hq⟩
      cases e with
      | tup cs =>
        obtain ⟨a, vs, rfl, q1, q2⟩ := hy
        cases cs with
        | nil => cases hb
        | cons c0 cs0 =>
          have h1 : isiAny Γ t (c0 :: cs0) = some b := hb
          have hlt : ∀ c, t = .c c → c < Γ.cls.length := by
            unfold isiAny at h1
            split at h1
            · rename_i h2 _; exact isi_lt h2
            · cases h1
          have ty := tyD_ok g.wf s' hx ht hlt
          rw [← g.hK] at ty
          obtain ⟨ws, pc, e1⟩ := isiAny_ok g.wf h1 q2
          rw [← g.hK] at e1
          rcases q1 with q1 | ⟨o, its, n, k1, k2, k3, k4, k5⟩
          · exact call_isiT pins s σ H [x, .ref a] [v, u] Q I (.cons rx (.cons ry .nil)) ⟨x, a, vs, _, ws, b, rfl, s'.sub _ _ q1, pc, ty, e1, hq⟩
          · have e2 := ClsV.all pc k5
            rw [← g.hK] at k1
            obtain ⟨oc, od, dt, sl⟩ := o
            simp only at k2 k3
            subst k2 k3
            exact call_isiK pins s σ H [x, .ref a] [v, u] Q I (.cons rx (.cons ry .nil)) ⟨x, a, od, ws, n, sl, _, b, rfl, by rw [← e2]; simpa using k1, ty, e1, hq⟩
      | _ => exact one hb
    · cases q
  · cases q
end
end MP

/-! MPH: built-in functions, methods. -/
namespace MP
open PySem PySem.Spec PyProof.Rows L2

def fLen : D → M D
  | .str x => .guard (x.length ≤ sizeLine) (.ret (.int x.length))
  | .tup xs => .ret (.int xs.length)
  | .flst xs => .ret (.int xs.length)
  | .ref r => fun S => match S[r]? with
    | some (.lst xs) => some (.ok (.int xs.length) S)
    | some (.dct kvs) => some (.ok (.int kvs.length) S)
    | _ => none
  | _ => .stuck
def fInt : D → M D
  | .int i => .ret (.int i)
  | .bl b => .ret (.int (if b then 1 else 0))
  | _ => .stuck
def fAbs : D → M D
  | .int i => .ret (.int (if i < 0 then -i else i))
  | _ => .stuck
def fTup : D → M D
  | .tup xs => .ret (.tup xs)
  | .flst xs => .ret (.tup xs)
  | .ref r => .bind (getL r) fun xs => .ret (.tup xs)
  | _ => .stuck
def fLst : D → M D
  | .tup xs => newL xs
  | .flst xs => newL xs
  | .ref r => .bind (getL r) fun xs => newL xs
  | _ => .stuck
def asBl : D → Option Bool
  | .bl b => some b
  | _ => none
def asBls : List D → Option (List Bool)
  | [] => some []
  | d :: ds => match asBl d, asBls ds with
    | some b, some bs => some (b :: bs)
    | _, _ => none
def asInts : List D → Option (List Int)
  | [] => some []
  | d :: ds => match d, asInts ds with
    | .int i, some is => some (i :: is)
    | _, _ => none
def fAll : D → M D
  | .ref r => .bind (getL r) fun xs => .bind (optM (asBls xs)) fun bs => .ret (.bl (bs.all id))
  | _ => .stuck
def fAny : D → M D
  | .ref r => .bind (getL r) fun xs => .bind (optM (asBls xs)) fun bs => .ret (.bl (bs.any id))
  | _ => .stuck
def fSum : D → M D
  | .ref r => .bind (getL r) fun xs => .bind (optM (asInts xs)) fun bs => .ret (.int bs.sum)
  | _ => .stuck

section
variable {Γ : Pg} {X : Cx} {G : GW} {W : WX} {C : Calls} {a b c e : Expr} {pos : Pos} {fa fb : Ev} {k : Nat}
theorem dlen_ok {pins : List (Addr × Obj)} {s : Shared} {σ : St} {H : Hp} {a : Addr} {kvs : List (Key × V)} {A : Around} {E : Value → Shared → Prop} {Q : VK} (I : Inv X pins σ H s) (e : H a = some (.dK kvs)) (q : Q (.int kvs.length) H) : wpAny (model X.prog X.w) A (call (.builtin "len") [.ref a]) (EP X pins σ Q) E s :=
  d_len I (.inl e) fun t s' I' => ⟨.int kvs.length, H, I', ⟨_, rfl⟩, q⟩
theorem us_len (hK : X.K = G.K) : UnS X G (fun u => call (.builtin "len") [u]) fLen := by
  intro W pins s σ H x v Q m F S d I rx s' hx h
  cases d with
  | str z =>
    obtain ⟨hl, h⟩ := Run.guard (x := M.ret _) h
    cases hx
    exact call_len_str pins s σ H _ _ Q I (.cons rx .nil) ⟨z, rfl, hl, h.ret s' rfl⟩
  | tup xs =>
    obtain ⟨a, vs, rfl, q1, q2⟩ := hx
    have hq := Run.ret (rel := relD G) h s' (b := V.int vs.length) (by rw [q2.length]; rfl)
    exact call_len_seq pins s σ H _ _ Q I (.cons rx .nil) ⟨a, vs, rfl, .inr (by rw [hK]; exact s'.sqT q1), hq⟩
  | flst xs =>
    obtain ⟨a, vs, rfl, q1, q2⟩ := hx
    have hq := Run.ret (rel := relD G) h s' (b := V.int vs.length) (by rw [q2.length]; rfl)
    exact call_len_seq pins s σ H _ _ Q I (.cons rx .nil) ⟨a, vs, rfl, .inl (by rw [hK]; exact s'.sqL q1), hq⟩
  | ref r =>
    obtain ⟨a, rfl, ha⟩ := hx
    obtain ⟨r', q, z⟩ := h
    unfold fLen at q
    simp only at q
    split at q
    · rename_i xs e1
      cases q
      obtain ⟨vs, h1, h2⟩ := s'.cel _ a _ ha e1
      exact call_len_seq pins s σ H _ _ Q I (.cons rx .nil) ⟨a, vs, rfl, .inl (.of h1), z m F H _ .refl s' (by rw [h2.length]; rfl)⟩
    · rename_i kvs e1
      cases q
      obtain ⟨ws, h1, h2, h3⟩ := s'.cel _ a _ ha e1
      obtain rfl : v = Value.ref a := rx
      exact dlen_ok I h1 (z m F H _ .refl s' (by rw [show kvs.length = ws.length by simpa using congrArg List.length h2]; rfl))
    · cases q
  | non => exact (Run.stuck (α := D) (rel := relD G) h).elim
  | bl _ => exact (Run.stuck (α := D) (rel := relD G) h).elim
  | int _ => exact (Run.stuck (α := D) (rel := relD G) h).elim
  | obj _ _ => exact (Run.stuck (α := D) (rel := relD G) h).elim
  | fn _ => exact (Run.stuck (α := D) (rel := relD G) h).elim
  | cls _ => exact (Run.stuck (α := D) (rel := relD G) h).elim
  | ty _ => exact (Run.stuck (α := D) (rel := relD G) h).elim
theorem us_int : UnS X G (fun u => call (.type "int") [u]) fInt := by
  intro W pins s σ H x v Q m F S d I rx s' hx h
  unfold fInt at h
  split at h
  · cases hx
    exact call_int1 pins s σ H _ _ Q I (.cons rx .nil) (.inl ⟨_, rfl, h.ret s' rfl⟩)
  · cases hx
    exact call_int1 pins s σ H _ _ Q I (.cons rx .nil) (.inr ⟨_, rfl, h.ret s' rfl⟩)
  · exact h.stuck.elim
theorem us_abs : UnS X G (fun u => call (.builtin "abs") [u]) fAbs := by
  intro W pins s σ H x v Q m F S d I rx s' hx h
  unfold fAbs at h
  split at h
  · cases hx
    exact call_abs pins s σ H _ _ Q I (.cons rx .nil) ⟨_, rfl, h.ret s' rfl⟩
  · exact h.stuck.elim
theorem us_tup (hK : X.K = G.K) : UnS X G (fun u => call (.type "tuple") [u]) fTup := by
  intro W pins s σ H x v Q m F S d I rx s' hx h
  unfold fTup at h
  split at h
  · obtain ⟨a, vs, rfl, q1, q2⟩ := hx
    exact call_tuple_of pins s σ H _ _ Q I (.cons rx .nil) ⟨a, vs, rfl, .inr ⟨by rw [hK]; exact s'.sqT q1, h.ret s' ⟨a, vs, rfl, q1, q2⟩⟩⟩
  · obtain ⟨a, vs, rfl, q1, q2⟩ := hx
    exact call_tuple_of pins s σ H _ _ Q I (.cons rx .nil) ⟨a, vs, rfl, .inl ⟨by rw [hK]; exact s'.sqL q1, run_tup h s' q2⟩⟩
  · obtain ⟨a, rfl, ha⟩ := hx
    obtain ⟨xs, vs, _, q1, q2, h⟩ := run_getL h s' ha
    exact call_tuple_of pins s σ H _ _ Q I (.cons rx .nil) ⟨a, vs, rfl, .inl ⟨.of q1, run_tup h s' q2⟩⟩
  · exact h.stuck.elim
theorem us_lst (hK : X.K = G.K) : UnS X G (fun u => call (.type "list") [u]) fLst := by
  intro W pins s σ H x v Q m F S d I rx s' hx h
  unfold fLst at h
  split at h
  · obtain ⟨a, vs, rfl, q1, q2⟩ := hx
    exact call_list_of pins s σ H _ _ Q I (.cons rx .nil) ⟨a, vs, rfl, .inr (by rw [hK]; exact s'.sqT q1), run_newL h s' q2⟩
  · obtain ⟨a, vs, rfl, q1, q2⟩ := hx
    exact call_list_of pins s σ H _ _ Q I (.cons rx .nil) ⟨a, vs, rfl, .inl (by rw [hK]; exact s'.sqL q1), run_newL h s' q2⟩
  · obtain ⟨a, rfl, ha⟩ := hx
    obtain ⟨xs, vs, _, q1, q2, h⟩ := run_getL h s' ha
    exact call_list_of pins s σ H _ _ Q I (.cons rx .nil) ⟨a, vs, rfl, .inl (.of q1), run_newL h s' q2⟩
  · exact h.stuck.elim
theorem asBls_rel {m : List Addr} {F : Hp} : ∀ {ds : List D} {bs : List Bool} {vs : List V}, asBls ds = some bs → relDs G m F ds vs → vs = bs.map V.bl
  | [], _, _, h, r => by cases h; exact r
  | d :: ds, _, _, h, ⟨v, r, rfl, r1, r2⟩ => by
    unfold asBls at h
    split at h
    · rename_i b bs h1 h2
      cases h
      cases d with
      | bl _ => cases h1; cases r1; rw [asBls_rel h2 r2]; rfl
      | _ => cases h1
    · cases h
theorem asInts_rel {m : List Addr} {F : Hp} : ∀ {ds : List D} {bs : List Int} {vs : List V}, asInts ds = some bs → relDs G m F ds vs → vs = bs.map V.int
  | [], _, _, h, r => by cases h; exact r
  | d :: ds, _, _, h, ⟨v, r, rfl, r1, r2⟩ => by
    unfold asInts at h
    split at h
    · rename_i i bs h2
      cases h
      cases r1; rw [asInts_rel h2 r2]; rfl
    · cases h
theorem run_optB {α γ δ : Type} {W : WX} {σ : St} {m : List Addr} {F : Hp} {S : Store} {rel : List Addr → Hp → γ → δ → Prop} {o : Option α} {f : α → M γ} {Q : δ → Hp → Prop} (h : Run G W σ rel (M.bind (optM o) f) m F S Q) : ∃ a, o = some a ∧ Run G W σ rel (f a) m F S Q := by
  cases o with
  | none => obtain ⟨_, q, _⟩ := h; cases q
  | some a => exact ⟨a, rfl, h⟩
theorem us_all (hc : X.calm = true) : UnS X G (fun u => call (.builtin "all") [u]) fAll := by
  intro W pins s σ H x v Q m F S d I rx s' hx h
  unfold fAll at h
  split at h
  · obtain ⟨a, rfl, ha⟩ := hx
    obtain ⟨xs, vs, _, q1, q2, h⟩ := run_getL h s' ha
    obtain ⟨bs, hb, h⟩ := run_optB h
    obtain rfl := asBls_rel hb q2
    exact cr_all hc pins s σ H _ _ Q I (.cons rx .nil) ⟨a, bs, rfl, .of q1, h.ret s' rfl⟩
  · exact h.stuck.elim
theorem us_any (hc : X.calm = true) : UnS X G (fun u => call (.builtin "any") [u]) fAny := by
  intro W pins s σ H x v Q m F S d I rx s' hx h
  unfold fAny at h
  split at h
  · obtain ⟨a, rfl, ha⟩ := hx
    obtain ⟨xs, vs, _, q1, q2, h⟩ := run_getL h s' ha
    obtain ⟨bs, hb, h⟩ := run_optB h
    obtain rfl := asBls_rel hb q2
    exact cr_any hc pins s σ H _ _ Q I (.cons rx .nil) ⟨a, bs, rfl, .of q1, h.ret s' rfl⟩
  · exact h.stuck.elim
theorem us_sum (hc : X.calm = true) : UnS X G (fun u => call (.builtin "sum") [u]) fSum := by
  intro W pins s σ H x v Q m F S d I rx s' hx h
  unfold fSum at h
  split at h
  · obtain ⟨a, rfl, ha⟩ := hx
    obtain ⟨xs, vs, _, q1, q2, h⟩ := run_getL h s' ha
    obtain ⟨bs, hb, h⟩ := run_optB h
    obtain rfl := asInts_rel hb q2
    exact cr_sum hc pins s σ H _ _ Q I (.cons rx .nil) ⟨a, bs, rfl, .of q1, h.ret s' rfl⟩
  · exact h.stuck.elim

/-! ### calls of built-ins by name -/
/-- no starred argument -/
def noStar : Expr → Bool
  | .Starred _ _ => false
  | _ => true
theorem starEach_one {env : Env} {es : List Expr} (h : noStar e = true) : starEach (e :: es) env = (false, eval e env) :: starEach es env := by
  cases e <;> first
    | rfl
    | cases h
theorem noStar_any {env : Env} : ∀ {es : List Expr}, es.all noStar = true → (backTo pos (starEach es env)).any (·.1) = false
  | [], _ => rfl
  | e :: es, h => by
    rw [List.all_cons, Bool.and_eq_true] at h
    rw [starEach_one h.1]
    show (false || (backTo pos (starEach es env)).any (·.1)) = false
    rw [noStar_any h.2]; rfl
theorem noStar_all {env : Env} : ∀ {es : List Expr}, es.all noStar = true → (backTo pos (starEach es env)).all (fun x => !x.1) = true
  | [], _ => rfl
  | e :: es, h => by
    rw [List.all_cons, Bool.and_eq_true] at h
    rw [starEach_one h.1]
    show (true && (backTo pos (starEach es env)).all (fun x => !x.1)) = true
    rw [noStar_all h.2]; rfl
theorem sa_one (ha : SE X G W a fa) (h : noStar a = true) : SA X G W [a] (aCons fa aNil) := sa_cons ha sa_nil (starEach_one h)

theorem se_bi1 (g : GY Γ X G W C k) {x : Str} {p : Pos} {id : String} {f : D → M D} (hx : Γ.gl.lookup x = some .free) (hg : Gl X x) (hv : bootBuiltins x = some (.builtin id)) (hn : x ≠ "__name__") (hdb : (x == ("__debug__" : Str)) = false)
    (us : UnS X G (fun u => call (.builtin id) [u]) f) (ha : SE X G W a fa) (hs : noStar a = true) : SE X G W (.Call (.Name x p) [a] [] pos) (eUn f fa) := by
  refine ⟨fun pins s σ H Q I h => ?_⟩
  refine wpAny_Call_Name_kw (ld_blt I hg (g.wf.free x hx) hv ?_ hn hdb)
  refine PyProof.Rows.callWith_builtin1 ?_ (starEach_one hs) rfl
  rw [starEach_one hs]
  refine Calls.spliced_cons (thn (ha.run pins s σ H _ I (tM.bind h)) fun u s1 ⟨x, H1, I1, r1, m, F, ρ, S, d, s', _, hx, r⟩ => Calls.spliced_nil ?_)
  exact us W pins s1 σ H1 x u Q m F S d I1 r1 s' hx r
theorem se_ty1 (g : GY Γ X G W C k) {x : Str} {p : Pos} {id : String} {f : D → M D} (hx : Γ.gl.lookup x = some .free) (hg : Gl X x) (hv : bootBuiltins x = some (.type id)) (hn : x ≠ "__name__") (hdb : (x == ("__debug__" : Str)) = false)
    (us : UnS X G (fun u => call (.type id) [u]) f) (ha : SE X G W a fa) (hs : noStar a = true) : SE X G W (.Call (.Name x p) [a] [] pos) (eUn f fa) := by
  refine ⟨fun pins s σ H Q I h => ?_⟩
  refine wpAny_Call_Name_kw (ld_blt I hg (g.wf.free x hx) hv ?_ hn hdb)
  refine PyProof.Rows.callWith_type1 ?_ (starEach_one hs) rfl
  rw [starEach_one hs]
  refine Calls.spliced_cons (thn (ha.run pins s σ H _ I (tM.bind h)) fun u s1 ⟨x, H1, I1, r1, m, F, ρ, S, d, s', _, hx, r⟩ => Calls.spliced_nil ?_)
  exact us W pins s1 σ H1 x u Q m F S d I1 r1 s' hx r
theorem se_bi2 (g : GY Γ X G W C k) {x : Str} {p : Pos} {id : String} {f : D → D → M D} (hx : Γ.gl.lookup x = some .free) (hg : Gl X x) (hv : bootBuiltins x = some (.builtin id)) (hn : x ≠ "__name__") (hdb : (x == ("__debug__" : Str)) = false)
    (us : OpS X G (fun u v => call (.builtin id) [u, v]) f) (ha : SE X G W a fa) (hb : SE X G W b fb) (hs : noStar a = true) (hs' : noStar b = true) : SE X G W (.Call (.Name x p) [a, b] [] pos) (eOp f fa fb) := by
  refine ⟨fun pins s σ H Q I h => ?_⟩
  refine wpAny_Call_Name_kw (ld_blt I hg (g.wf.free x hx) hv ?_ hn hdb)
  refine PyProof.Rows.callWith_builtin1 ?_ (starEach_one hs) (noStar_any (by simp [hs']))
  rw [starEach_one hs, starEach_one hs']
  refine Calls.spliced_cons (thn (ha.run pins s σ H _ I (bin2 h)) fun u s1 ⟨x, H1, I1, r1, q1⟩ => ?_)
  refine Calls.spliced_cons (wpAny_mono (hb.run pins s1 σ H1 _ I1 q1) (fun v s2 ⟨y, H2, I2, r2, m, F, S, dx, dy, s', hx, hy, r⟩ => Calls.spliced_nil ?_) fun _ _ x => x)
  exact us W pins s2 σ H2 x y u v Q m F S dx dy I2 r1 r2 s' hx hy r
theorem os_isi (g : GY Γ X G W C k) : OpS X G (fun u v => call (.builtin "isinstance") [u, v]) (fIsi Γ) := by
  intro W' pins s σ H x y v u Q m F S d e I rx ry s' hx hy h
  obtain ⟨r, q, h⟩ := h
  -- no exception: the wish of exceptions does not matter
  refine isi_ok (W := W) g I rx ry s' hx hy ⟨r, q, ?_⟩
  cases r with
  | ok _ _ => exact h
  | ex e S' =>
    unfold fIsi at q
    split at q
    · split at q <;> cases q
    · cases q
end
end MP

/-! MPEnum: enumerate over a tuple. -/
namespace MPE
open PySem PySem.Spec PyProof.Rows L2 RZ
open Sem (wp)
open AutoSeq1 (wpAny_loadPart')
theorem meets_enumerate_newT (l : Addr) (items : Array Value) (n : Nat) (dct : Option Addr) (sl : Array (Option Value)) :
    Meets (Builtin.«enumerate.__new__» ⟨[.type "enumerate", .ref l], []⟩) (fun _ R s => s.heap.get? l = some { cls := .type "tuple", dict := dct, data := .seq items n, slots := sl } ∧
      R (.ok (.ret (.ref (s.heap.push { cls := .type "tuple_iterator", data := .fields #[.ref l, .int 0 0] }).objs.size)))
        { s with heap := (s.heap.push { cls := .type "tuple_iterator", data := .fields #[.ref l, .int 0 0] }).push { cls := .type "enumerate", data := .fields #[.none, .bool false, .ref s.heap.objs.size, rawInt 0, .none, .none] } }) :=
  .of_wp fun prog w A R s h => by
    obtain ⟨hp, g, d, tk, os⟩ := s; obtain ⟨hl, h⟩ := h
    have hsub := sub_enumerate
    have hL : Heap.IsTuple (Shared.heap ⟨hp, g, d, tk, os⟩) l items := ⟨_, hl, rfl, n, rfl⟩
    wp_walk using wpAny_loadPart' hl
    refine wpAny_stack_any fun st => wpAny_pure ?_
    split
    · rename_i c _ _ _ _ _
      cases (c == Value.type "enumerate")
      · wp_walk using wpAny_loadPart' hl, wpAny_pyIter_tuple hL
        exact ⟨_, rfl, h⟩
      · wp_walk using wpAny_loadPart' hl, wpAny_pyIter_tuple hL
        exact ⟨_, rfl, h⟩
    · wp_walk using wpAny_loadPart' hl, wpAny_pyIter_tuple hL
      exact ⟨_, rfl, h⟩
section
variable {prog : Program} {w : World} {A : Around} {E : Value → Shared → Prop} {s : Shared}
theorem call_enumerate_tuple {l : Addr} {items : Array Value} {Q : Value → Shared → Prop} (hL : s.heap.IsTuple l items)
    (h : ∀ h', IsEnum h' (s.heap.objs.size + 1) s.heap.objs.size 0 .none → h'.IsTupleIter s.heap.objs.size l 0 → h'.objs.size = s.heap.objs.size + 2 →
      (∀ b o, s.heap.get? b = some o → h'.get? b = some o) → Q (.ref (s.heap.objs.size + 1)) { s with heap := h' }) :
    wpAny (model prog w) A (call (.type "enumerate") [.ref l]) Q E s := by
  obtain ⟨⟨c, dct, dt, sl⟩, hl, hc, n, hd⟩ := hL
  replace hc : c = .type "tuple" := hc
  replace hd : dt = .seq items n := hd
  subst hc hd
  refine callType_new F.called_enumerate (by decide) (F.typeCall_enumerate_1 _) (F.newCall_enumerate_1 _) (fun obj => F.args_object_init_2 obj _) F.entry_enumerate_new
    (meets_enumerate_newT l items n dct sl) ⟨hl, ?_⟩
  have hz : (s.heap.push { cls := .type "tuple_iterator", data := .fields #[.ref l, .int 0 0] }).objs.size = s.heap.objs.size + 1 := Heap.size_push ..
  show _ ∧ _
  rw [hz]
  have he : IsEnum ((s.heap.push { cls := .type "tuple_iterator", data := .fields #[.ref l, .int 0 0] }).push
      { cls := .type "enumerate", data := .fields #[.none, .bool false, .ref s.heap.objs.size, rawInt 0, .none, .none] }) (s.heap.objs.size + 1) s.heap.objs.size 0 .none := by
    have := Heap.get?_push_size (s.heap.push { cls := .type "tuple_iterator", data := .fields #[.ref l, .int 0 0] })
      (o := { cls := .type "enumerate", data := .fields #[.none, .bool false, .ref s.heap.objs.size, rawInt 0, .none, .none] }) rfl
    rw [hz] at this; exact this
  refine ⟨⟨_, he, rfl⟩, h _ he ⟨_, Heap.get?_push_of_some _ (Heap.get?_push_size _ rfl), rfl, rfl⟩ (by rw [Heap.size_push, hz]) fun b o x => Heap.get?_push_of_some _ (Heap.get?_push_of_some _ x)⟩
end
theorem drawsTuple {prog : Program} {w : World} {A : Around} (hh : A.handled = none) (it l : Addr) (hne : l ≠ it) (items : Array Value) :
    Draws prog w A it [it, l] items.size (fun i v => items[i]? = some v) (fun i h => h.IsTupleIter it l i ∧ h.IsTuple l items) where
  live := fun _ _ st => let ⟨o, ho, _⟩ := st.1; ⟨o, ho⟩
  frame := fun _ _ _ st hk => ⟨st.1.at fun o e => hk it (by simp) o e, let ⟨o, ho, r⟩ := st.2; ⟨o, hk l (by simp) o ho, r⟩⟩
  item := fun i s Q E hi st hQ => by
    refine nextOf_tuple_item st.1 st.2 (x := items[i]) (by simp [hi]) fun h' hit' hs' => ?_
    exact hQ _ h' s.toks (by simp [hi]) ⟨hit', st.2.extBut hs'.extBut hne⟩ hs'
  done := fun s Q E st hE => nextOf_tuple_end hh st.1 st.2 (by simp) hE
/-- the tuple at a, each item in a new pair with its place -/
def IteT (K : PySem.W.Frag) (a : Addr) (xs : List V) : It :=
  ⟨fun i H => ∃ (x : V), SqT K H a xs ∧ xs[i]? = some x, fun i H v H' => ∃ T x, v = .ref T ∧ H T = none ∧ H' = upd H T (.tup [.int (i : Nat), x]) ∧ xs[i]? = some x, fun i H => SqT K H a xs ∧ xs.length ≤ i⟩
theorem turn_enumT {P : Program} {w : World} {K : PySem.W.Frag} {elts : List Expr} {kk : Nat} {tpos : Pos} (a e it : Addr) (xs : List V) :
    Turn P w K (.Tuple elts kk tpos) (IteT K a xs) [e, it] e (fun i h => (∃ old, IsEnum h e it ((i : Nat) : Int) old) ∧ h.IsTupleIter it a i ∧ e ≠ it ∧ a ≠ it ∧ a ≠ e ∧ i ≤ xs.length) where
  mem := by simp
  obj := fun i h st b hb => by
    obtain ⟨⟨old, he⟩, ⟨o, ho, hc, hd⟩, _⟩ := st
    have e' : b = e ∨ b = it := by simpa using hb
    rcases e' with z | z
    · rw [z]; exact ⟨_, he, fun v q => nomatch q⟩
    · rw [z]; exact ⟨o, ho, fun v q => by rw [hd] at q; cases q⟩
  keep := fun i h h' st k => let ⟨⟨old, he⟩, hi, hne⟩ := st; ⟨⟨old, k e (by simp) _ he⟩, hi.at fun o q => k it (by simp) o q, hne⟩
  item := by
    intro X hP hw hK hc i pins s σ H E I hf st hg
    subst hP hw hK
    obtain ⟨⟨old, he⟩, hit, hne, ha1, ha2, hle⟩ := st
    obtain ⟨x, hq, hx⟩ := hg
    obtain ⟨its, rv, p, hz⟩ := I.tuple hq
    obtain ⟨u, hu, ru⟩ := rv.get hx
    have hel : e < s.heap.objs.size := Heap.lt_size he
    have hil : it < s.heap.objs.size := by obtain ⟨_, q, _⟩ := hit; exact Heap.lt_size q
    have hT : s.heap.IsTuple a its.toArray := p
    have hiz : i < its.toArray.size := by
      have := (List.getElem?_eq_some_iff.mp hu).1
      simpa using this
    refine wpAny_pyNext_enum_itemD (drawsTuple (A := X.A.in1) (I.ok.hd hc) it a ha1 its.toArray) he ⟨hit, hT⟩ hiz hne (by simp [hne, Ne.symm ha2]) fun x2 h' tk hP ho hst hT2 hsz hk => ?_
    obtain ⟨hit', hT'⟩ := hst
    have ex : x2 = u := by
      have h1 : its.toArray[i]? = some u := by simpa using hu
      rw [h1] at hP; exact (Option.some.inj hP).symm
    subst ex
    refine ⟨_, rfl, wpAny_letOwnedTupleGo_enum (s := { s with heap := h', toks := tk + 1 }) ho fun h'' he' sb => ?_⟩
    have hT3 : h''.get? s.heap.objs.size = some { cls := .type "tuple", data := .seq #[.int i tk, x2] } := (sb.2 _ (Nat.ne_of_gt hel)).trans hT2
    have new : ObjOk X.prog X.w (upd H s.heap.objs.size (.tup [.int (i : Nat), x])) h'' s.heap.objs.size (.tup [.int (i : Nat), x]) :=
      ⟨by show 2 ≤ sizeLine; decide, [.int i tk, x2], .cons ⟨_, rfl⟩ (.cons ru .nil), ⟨_, hT3, rfl, _, rfl⟩⟩
    have I1 : Inv X pins σ (upd H s.heap.objs.size (.tup [.int (i : Nat), x])) { s with heap := h'', toks := tk + 1 } :=
      I.turnedNew (ch := [e, it]) (fun b ob hb q => (sb.2 b (fun z => hb (by simp [z]))).trans (hk b ob (fun z => hb (by simp [z])) (fun z => hb (by simp [z])) q)) hf (Nat.le_refl _) new
    refine ⟨.ref s.heap.objs.size, _, I1, rfl, ⟨_, x, rfl, I.hok.fresh (Nat.le_refl _), rfl, hx⟩, ⟨⟨x2, ?_⟩, hit'.at fun o q => (sb.2 it (Ne.symm hne)).trans q, hne, ha1, ha2, (List.getElem?_eq_some_iff.mp hx).1⟩, fun b hb => ?_⟩
    · have e1 : ((i + 1 : Nat) : Int) = (i : Int) + 1 := by omega
      rw [e1]; exact he'
    · have hb' : b < s.heap.objs.size := by
        have e' : b = e ∨ b = it := by simpa using hb
        rcases e' with z | z
        · rw [z]; exact hel
        · rw [z]; exact hil
      rw [upd_ne (Nat.ne_of_lt hb')]
      exact (hf b hb).1
  done := by
    intro X hP hw hK hc i pins s σ H E I hf st hg
    subst hP hw hK
    obtain ⟨⟨old, he⟩, hit, hne, ha1, ha2, hle⟩ := st
    obtain ⟨hq, hx⟩ := hg
    obtain ⟨its, rv, p, hz⟩ := I.tuple hq
    obtain ⟨f0, f1, f2, f3, f4, f5⟩ := hf it (by simp)
    have hl := rv.length
    have hT : s.heap.IsTuple a its.toArray := p
    have hi : i = its.toArray.size := by simp; omega
    subst hi
    exact wpAny_pyNext_enum_endD (drawsTuple (A := X.A.in1) (I.ok.hd hc) it a ha1 its.toArray) he ⟨hit, hT⟩ fun h' eb => ⟨rfl, I.turned (t' := s.toks) (fun b o hb q => eb b o hb q) f0 f1 f3 f4 f5⟩
  self := fun A i s Q E st h => let ⟨⟨_, he⟩, _⟩ := st; wpAny_pyIter_enum he h
end MPE

/-! MPI: what a loop walks, its targets, list comprehensions. -/
namespace MP
open PySem PySem.Spec PyProof.Rows L2

/-- garbage of an expression goes -/
noncomputable def eDrop (f : Ev) : Ev := fun ρ S => match f ρ S with
  | some (.ok d S') => some (.ok d (dropR S d S'))
  | r => r

/-- the targets of loops and comprehensions -/
inductive Tg where
  | one (i : Nat) | many (is : List Nat)
def setAll {α : Type} : List (Option α) → List Nat → List α → List (Option α)
  | ρ, [], _ => ρ
  | ρ, _ :: _, [] => ρ
  | ρ, i :: is, d :: ds => setAll (ρ.set i (some d)) is ds
def Tg.slots : Tg → List Nat
  | .one i => [i]
  | .many is => is
def Tg.asg : Tg → D → En → Option En
  | .one i, d, ρ => some (ρ.set i (some d))
  | .many is, .tup ds, ρ => if ds.length = is.length then some (setAll ρ is ds) else none
  | .many _, _, _ => none
/-- the cells that a loop walks: they stay as they are -/
inductive Src where
  | non | lst (r : Nat) (xs : List D) | two (a b : Src)
def Src.ok : Src → Store → Prop
  | .non, _ => True
  | .lst r xs, S => S[r]? = some (.lst xs)
  | .two a b, S => a.ok S ∧ b.ok S
structure Itm where
  items : List D
  src : Src
abbrev Iv := En → M Itm
/-- a sequence's items -/
def seqM : D → M (List D × Src)
  | .tup xs => .ret (xs, .non)
  | .flst xs => .ret (xs, .non)
  | .ref r => .bind (getL r) fun xs => .ret (xs, .lst r xs)
  | _ => .stuck
def iSeq (e : Ev) : Iv := fun ρ => .bind (e ρ) fun x => .bind (seqM x) fun p => .ret ⟨p.1, p.2⟩
def rngOk (i : Int) : Prop := -(2 ^ 62) ≤ i ∧ i < 2 ^ 62
instance (i : Int) : Decidable (rngOk i) := by unfold rngOk; infer_instance
def rngL (i j : Int) : List D := (List.range (j - i).toNat).map fun n => .int (i + (n : Nat))
def iRng1 (e : Ev) : Iv := fun ρ => .bind (e ρ) fun x => match x with
  | .int j => .guard (rngOk j) (.ret ⟨rngL 0 j, .non⟩)
  | _ => .stuck
def iRng2 (e f : Ev) : Iv := fun ρ => .bind (e ρ) fun x => .bind (f ρ) fun y => match x, y with
  | .int i, .int j => .guard (rngOk i ∧ rngOk j) (.ret ⟨rngL i j, .non⟩)
  | _, _ => .stuck
def zipL (xs ys : List D) : List D := (xs.zip ys).map fun p => .tup [p.1, p.2]
def enumL (xs : List D) : List D := xs.zipIdx.map fun p => .tup [.int (p.2 : Nat), p.1]
def sameKind : D → D → Bool
  | .tup _, .tup _ => true
  | .tup _, _ => false
  | _, .tup _ => false
  | _, _ => true
def iZip (e f : Ev) : Iv := fun ρ => .bind (e ρ) fun x => .bind (f ρ) fun y => .guard (sameKind x y = true) (.bind (seqM x) fun p => .bind (seqM y) fun q => .ret ⟨zipL p.1 q.1, .two p.2 q.2⟩)

section
variable {Γ : Pg} {X : Cx} {G : GW} {W : WX} {C : Calls} {a b c e tg iter : Expr} {pos : Pos} {fa fb : Ev} {k : Nat}
theorem se_drop (ha : SE X G W a fa) : SE X G W a (eDrop fa) := by
  refine PEimp ha fun σ H Q h => ?_
  obtain ⟨m, F, ρ, S, s, e, r⟩ := h
  refine ⟨m, F, ρ, S, s, e, ?_⟩
  obtain ⟨r1, q, h⟩ := r
  unfold eDrop at q
  split at q
  · rename_i d S' e1
    cases q
    refine ⟨_, e1, fun m' F' H' v h1 h2 h3 => ?_⟩
    obtain ⟨m2, q1, q2, q3⟩ := dropR_ok s h1 h2 h3
    exact h m2 F' H' v q1 q2 q3
  · exact ⟨r1, q, h⟩

/-! ### targets -/
def gNames : List Nat → TGs
  | [] => gNil
  | i :: is => gCons (gName i) (gNames is)
theorem gNames_ok {Q : St → Hp → Prop} {H : Hp} : ∀ {is : List Nat} {vs : List V} {σ : St}, vs.length = is.length → Q (setAll σ is vs) H → gNames is vs σ H Q
  | [], vs, σ, hl, q => by
    have : vs = [] := List.length_eq_zero_iff.mp hl
    subst this
    exact ⟨rfl, q⟩
  | i :: is, [], σ, hl, q => by simp at hl
  | i :: is, v :: vs, σ, hl, q => ⟨v, vs, rfl, gNames_ok (by simpa using hl) q⟩
theorem setAll_rel {m : List Addr} {F : Hp} : ∀ {is : List Nat} {ds : List D} {vs : List V} {ρ : En} {σ : St}, relE G m F ρ σ → relDs G m F ds vs → relE G m F (setAll ρ is ds) (setAll σ is vs)
  | [], ds, vs, ρ, σ, r, h => by
    cases ds <;> cases vs <;> exact r
  | i :: is, [], vs, ρ, σ, r, h => by
    rw [show vs = [] from h]; exact r
  | i :: is, d :: ds, _, ρ, σ, r, ⟨v, vs, rfl, h1, h2⟩ => setAll_rel (is := is) (ds := ds) (vs := vs) (ρ := ρ.set i (some d)) (σ := σ.set i (some v)) (r.set i h1) h2
theorem setAll_length {α : Type} : ∀ {is : List Nat} {ds : List α} {ρ : List (Option α)}, (setAll ρ is ds).length = ρ.length
  | [], _, _ => rfl
  | i :: is, [], _ => rfl
  | i :: is, d :: ds, ρ => by
    show (setAll (ρ.set i (some d)) is ds).length = _
    rw [setAll_length]; simp
/-- the target stores as told -/
def Tg.g (K : PySem.W.Frag) : Tg → TG
  | .one i => gName i
  | .many is => gTup K is.length (gNames is)
abbrev SG (X : Cx) (tg : Expr) (t : Tg) : Prop := PG X tg (t.g X.K)
theorem sg_one {i : Nat} {x : Str} (hN : X.N.Nodup) (hi : X.N[i]? = some x) (hx : Loc X.env.scope x) (hf : X.fn x = true ∨ X.env.scope.names.lookup x = some .local) : SG X (.Name x pos) (.one i) := pg_name hN hi hx hf
theorem setAll_ne {α : Type} {j : Nat} : ∀ {is : List Nat} {ds : List α} {ρ : List (Option α)}, j ∉ is → (setAll ρ is ds)[j]? = ρ[j]?
  | [], _, _, _ => rfl
  | i :: is, [], _, _ => rfl
  | i :: is, d :: ds, ρ, h => by
    simp only [List.mem_cons, not_or] at h
    show (setAll (ρ.set i (some d)) is ds)[j]? = _
    rw [setAll_ne h.2, List.getElem?_set_ne (Ne.symm h.1)]
inductive Names (X : Cx) : List Expr → List Nat → Prop
  | nil : Names X [] []
  | cons {i : Nat} {x : Str} {p : Pos} {es : List Expr} {is : List Nat} : X.N[i]? = some x → Loc X.env.scope x → (X.fn x = true ∨ X.env.scope.names.lookup x = some .local) → Names X es is → Names X (.Name x p :: es) (i :: is)
theorem names_each {es : List Expr} {is : List Nat} (h : Names X es is) : (assignEach es X.env).length = is.length ∧ (assignEach es X.env).findIdx? (·.1) = none := by
  induction h with
  | nil => exact ⟨rfl, rfl⟩
  | @cons i x p es is _ _ _ _ ih =>
    have e1 : assignEach (.Name x p :: es) X.env = (false, assign (.Name x p) X.env) :: assignEach es X.env := rfl
    rw [e1]
    refine ⟨by rw [List.length_cons, List.length_cons, ih.1], ?_⟩
    rw [List.findIdx?_cons]
    simp [ih.2]
theorem names_pgs {es : List Expr} {is : List Nat} (hN : X.N.Nodup) (h : Names X es is) : PGs X es (gNames is) := by
  induction h with
  | nil => exact pgs_nil
  | cons h1 h2 h3 _ ih => exact pgs_cons (pg_name hN h1 h2 h3) ih rfl
theorem sg_many {es : List Expr} {is : List Nat} {kk : Nat} (hc : X.calm = true) (hN : X.N.Nodup) (h : Names X es is) : SG X (.Tuple es kk pos) (.many is) := by
  obtain ⟨e1, e2⟩ := names_each h
  exact pg_tup (n := is.length) hc (names_pgs hN h) e1 e2
theorem Tg.g_ok {t : Tg} {m : List Addr} {F : Hp} {S : Store} {H : Hp} {σ : St} {ρ ρ' : En} {d : D} {v : V} {Q : St → Hp → Prop} (s : Sim G m F S H) (r : relE G m F ρ σ) (hd : relD G m F d v) (e : t.asg d ρ = some ρ')
    (q : ∀ σ', relE G m F ρ' σ' → (∀ i, i ∉ t.slots → σ'[i]? = σ[i]?) → Q σ' H) : t.g G.K v σ H Q := by
  cases t with
  | one i =>
    cases e
    refine q _ (r.set i hd) fun j hj => ?_
    have : j ≠ i := by simpa [Tg.slots] using hj
    rw [List.getElem?_set_ne (Ne.symm this)]
  | many is =>
    cases d with
    | tup ds =>
      have e' : (if ds.length = is.length then some (setAll ρ is ds) else none) = some ρ' := e
      split at e'
      · rename_i hl
        cases e'
        obtain ⟨a, vs, rfl, q1, q2⟩ := hd
        have hv : vs.length = is.length := by rw [← q2.length]; exact hl
        exact ⟨a, vs, rfl, s.sqT q1, hv, gNames_ok hv (q _ (setAll_rel r q2) fun j hj => setAll_ne hj)⟩
      · cases e'
    | _ => cases e
end
end MP

/-! MPJ: what a loop walks is as told. -/
namespace MP
open PySem PySem.Spec PyProof.Rows L2

/-- the library's walk J gives the items -/
def relI (G : GW) : List Addr → Hp → Itm → It → Prop := fun m F it J =>
  ∀ m' F' S' H', Ext m F m' F' → Sim G m' F' S' H' → it.src.ok S' → (∀ i, it.items.length ≤ i → J.stop i H') ∧
    ∀ (i : Nat) d, it.items[i]? = some d → J.go i H' ∧ ∀ x H2, J.yld i H' x H2 → ∃ F2, Ext m' F' m' F2 ∧ Sim G m' F2 S' H2 ∧ relD G m' F2 d x
abbrev SI (X : Cx) (G : GW) (W : WX) (tg iter : Expr) (f : Iv) : Prop := PI X tg iter (tM G W (relI G) f)
theorem PIimp {X : Cx} {tg iter : Expr} {t t' : TI} (h : PI X tg iter t) (w : ∀ σ H R, t' σ H R → t σ H R) : PI X tg iter t' := ⟨fun pins s σ H R I q => h.run pins s σ H R I (w σ H R q)⟩
def iEnum' (e : Ev) : Iv := fun ρ => .bind (e ρ) fun x => .bind (seqM x) fun p => .ret ⟨enumL p.1, p.2⟩

/-- a value is a sequence of these, as long as its cells stay -/
def SeqAt' (G : GW) (m : List Addr) (F : Hp) (x : V) (ds : List D) (src : Src) (tup : Bool) : Prop :=
  ∃ a, x = .ref a ∧ ∃ vs, relDs G m F ds vs ∧ ∀ m' F' S' H', Ext m F m' F' → Sim G m' F' S' H' → src.ok S' → if tup = true then SqT G.K H' a vs else ∃ ws, SqL G.K H' a ws ∧ relDs G m' F' ds ws
def isTupD : D → Bool
  | .tup _ => true
  | _ => false
section
variable {Γ : Pg} {X : Cx} {G : GW} {W : WX} {C : Calls} {a b c e tg iter : Expr} {pos : Pos} {fa fb : Ev} {k : Nat}
theorem seq_run {γ δ : Type} {rel : List Addr → Hp → γ → δ → Prop} {σ : St} {m : List Addr} {F : Hp} {S : Store} {H : Hp} {d : D} {x : V} {f : List D × Src → M γ} {Q : δ → Hp → Prop} (h : Run G W σ rel (M.bind (seqM d) f) m F S Q) (s : Sim G m F S H) (r : relD G m F d x) :
    ∃ ds src, SeqAt' G m F x ds src (isTupD d) ∧ src.ok S ∧ Run G W σ rel (f (ds, src)) m F S Q := by
  cases d with
  | tup xs =>
    obtain ⟨a, vs, rfl, q1, q2⟩ := r
    exact ⟨xs, .non, ⟨a, rfl, vs, q2, fun m' F' S' H' e s' _ => s'.sqT (e.sqT q1)⟩, trivial, h⟩
  | flst xs =>
    obtain ⟨a, vs, rfl, q1, q2⟩ := r
    exact ⟨xs, .non, ⟨a, rfl, vs, q2, fun m' F' S' H' e s' _ => ⟨vs, s'.sqL (e.sqL q1), q2.mono e⟩⟩, trivial, h⟩
  | ref i =>
    obtain ⟨a, rfl, ha⟩ := r
    have h' : Run G W σ rel (M.bind (getL i) fun xs => f (xs, .lst i xs)) m F S Q := by
      have : M.bind (seqM (.ref i)) f = M.bind (getL i) fun xs => f (xs, .lst i xs) := by
        show M.bind (M.bind (getL i) fun xs => .ret (xs, .lst i xs)) f = _
        rw [M.bind_assoc]; rfl
      rw [this] at h; exact h
    obtain ⟨xs, vs, e1, q1, q2, h2⟩ := run_getL h' s ha
    refine ⟨xs, .lst i xs, ⟨a, rfl, vs, q2, fun m' F' S' H' e s' ok => ?_⟩, e1, h2⟩
    obtain ⟨ws, w1, w2⟩ := s'.cel i a _ (e.pre _ _ ha) ok
    exact ⟨ws, .of w1, w2⟩
  | non => exact (Run.stuck (α := γ) (rel := rel) h).elim
  | bl _ => exact (Run.stuck (α := γ) (rel := rel) h).elim
  | int _ => exact (Run.stuck (α := γ) (rel := rel) h).elim
  | str _ => exact (Run.stuck (α := γ) (rel := rel) h).elim
  | obj _ _ => exact (Run.stuck (α := γ) (rel := rel) h).elim
  | fn _ => exact (Run.stuck (α := γ) (rel := rel) h).elim
  | cls _ => exact (Run.stuck (α := γ) (rel := rel) h).elim
  | ty _ => exact (Run.stuck (α := γ) (rel := rel) h).elim
theorem seq_tup {m : List Addr} {F : Hp} {S : Store} {H : Hp} {x : V} {ds : List D} {src : Src} (h : SeqAt' G m F x ds src true) (s : Sim G m F S H) (ok : src.ok S) : ∃ a vs, x = .ref a ∧ relDs G m F ds vs ∧ SqT G.K H a vs ∧ ∀ m' F' S' H', Ext m F m' F' → Sim G m' F' S' H' → src.ok S' → SqT G.K H' a vs := by
  obtain ⟨a, rfl, vs, r, q⟩ := h
  exact ⟨a, vs, rfl, r, by have := q m F S H .refl s ok; simpa using this, fun m' F' S' H' e s' ok' => by have := q m' F' S' H' e s' ok'; simpa using this⟩
theorem seq_lst {m : List Addr} {F : Hp} {S : Store} {H : Hp} {x : V} {ds : List D} {src : Src} (h : SeqAt' G m F x ds src false) (s : Sim G m F S H) (ok : src.ok S) : ∃ a, x = .ref a ∧ (∃ vs, SqL G.K H a vs) ∧ ∀ m' F' S' H', Ext m F m' F' → Sim G m' F' S' H' → src.ok S' → ∃ ws, SqL G.K H' a ws ∧ relDs G m' F' ds ws := by
  obtain ⟨a, rfl, vs, r, q⟩ := h
  have q' : ∀ m' F' S' H', Ext m F m' F' → Sim G m' F' S' H' → src.ok S' → ∃ ws, SqL G.K H' a ws ∧ relDs G m' F' ds ws := fun m' F' S' H' e s' ok' => by have := q m' F' S' H' e s' ok'; simpa using this
  obtain ⟨ws, w1, _⟩ := q' m F S H .refl s ok
  exact ⟨a, rfl, ⟨ws, w1⟩, q'⟩

/-- a list or a tuple, walked -/
def iSq (K : PySem.W.Frag) (tl : TE) : TI := fun σ H R => tl σ H fun x H1 => ∃ a, x = .ref a ∧ (((∃ xs, SqT K H1 a xs) ∧ R (Itt K a) H1) ∨ ((∃ xs, SqL K H1 a xs) ∧ R (Itl K a) H1))
theorem pi_sq {l : Expr} {tl : TE} (hl : PE X l tl) : PI X tg l (iSq X.K tl) := by
  refine ⟨fun pins s σ H R I h => ?_⟩
  refine thn (hl.run pins s σ H _ I h) fun v s1 ⟨x, H1, I1, r1, q1⟩ => ?_
  obtain ⟨a, e, q⟩ := q1
  subst e
  cases r1
  have hf : ∀ b ∈ [s1.heap.objs.size], FpOk X pins H1 b := fun b hb => by
    have e : b = s1.heap.objs.size := by simpa using hb
    subst e
    exact I1.fpOk (Nat.le_refl _) (I1.hok.fresh (Nat.le_refl _))
  rcases q with ⟨⟨xs, hq⟩, q⟩ | ⟨⟨xs, hq⟩, q⟩
  · obtain ⟨its, rv, p, hz⟩ := I1.tuple hq
    refine wpAny_pyIter_tuple (show s1.heap.IsTuple a its.toArray from p) ?_
    exact ⟨s1.heap.objs.size, [s1.heap.objs.size], _, _, H1, rfl, I1.kept (t' := s1.toks) fun b o e => Heap.get?_push_of_some _ e, turn_tuple a _, ⟨_, Heap.get?_push_size _ rfl, rfl, rfl⟩, hf, q⟩
  · obtain ⟨its, rv, p, hz⟩ := I1.list hq
    refine wpAny_pyIter_list p.isList ?_
    exact ⟨s1.heap.objs.size, [s1.heap.objs.size], _, _, H1, rfl, I1.kept (t' := s1.toks) fun b o e => Heap.get?_push_of_some _ e, turn_list a _, ⟨_, Heap.get?_push_size _ rfl, rfl, rfl⟩, hf, q⟩
theorem si_seq (hK : X.K = G.K) (ha : SE X G W a fa) : SI X G W tg a (iSeq fa) := by
  refine PIimp (pi_sq ha) fun σ H R h => ?_
  refine (tM.bind h).imp fun x H1 ⟨m, F, ρ, S, d, s, _, hx, r⟩ => ?_
  obtain ⟨ds, src, hq, ok, r2⟩ := seq_run r s hx
  rw [hK]
  cases hd : isTupD d with
  | true =>
    rw [hd] at hq
    obtain ⟨ad, vs, rfl, q1, q2, q3⟩ := seq_tup hq s ok
    refine ⟨ad, rfl, .inl ⟨⟨vs, q2⟩, Run.ret (rel := relI G) r2 s fun m' F' S' H' e s' ok' => ⟨fun i hi => ⟨vs, q3 _ _ _ _ e s' ok', by rw [← q1.length]; exact hi⟩, fun i d' hd' => ?_⟩⟩⟩
    obtain ⟨v, hv, hr⟩ := (q1.mono e).get hd'
    refine ⟨⟨vs, v, q3 _ _ _ _ e s' ok', hv⟩, fun x H2 y => ?_⟩
    obtain ⟨rfl, y⟩ := y
    have := y vs (q3 _ _ _ _ e s' ok')
    rw [hv] at this; cases this
    exact ⟨F', .refl, s', hr⟩
  | false =>
    rw [hd] at hq
    obtain ⟨ad, rfl, q2, q3⟩ := seq_lst hq s ok
    refine ⟨ad, rfl, .inr ⟨q2, Run.ret (rel := relI G) r2 s fun m' F' S' H' e s' ok' => ?_⟩⟩
    obtain ⟨ws, w1, w2⟩ := q3 _ _ _ _ e s' ok'
    refine ⟨fun i hi => ⟨ws, w1, by rw [← w2.length]; exact hi⟩, fun i d' hd' => ?_⟩
    obtain ⟨v, hv, hr⟩ := w2.get hd'
    refine ⟨⟨ws, v, w1, hv⟩, fun x H2 y => ?_⟩
    obtain ⟨rfl, y⟩ := y
    have := y ws w1
    rw [hv] at this; cases this
    exact ⟨F', .refl, s', hr⟩

theorem rngL_length (i j : Int) : (rngL i j).length = (j - i).toNat := by simp [rngL]
theorem rngL_get {i j : Int} {n : Nat} {d : D} (h : (rngL i j)[n]? = some d) : n < (j - i).toNat ∧ d = .int (i + (n : Nat)) := by
  unfold rngL at h
  rw [List.getElem?_map] at h
  cases e : (List.range (j - i).toNat)[n]? with
  | none => rw [e] at h; cases h
  | some q =>
    rw [e] at h; cases h
    obtain ⟨h1, h2⟩ := List.getElem?_eq_some_iff.mp e
    simp at h1 h2
    exact ⟨by omega, by rw [h2]⟩
theorem relI_range {m : List Addr} {F : Hp} (i j : Int) : relI G m F ⟨rngL i j, .non⟩ (Itr i (j - i).toNat) := fun m' F' S' H' e s' _ =>
  ⟨fun n hn => by rw [rngL_length] at hn; exact hn, fun n d hd => by
    obtain ⟨h1, h2⟩ := rngL_get hd
    refine ⟨h1, fun x H2 y => ?_⟩
    obtain ⟨rfl, rfl⟩ := y
    exact ⟨F', .refl, s', h2 ▸ rfl⟩⟩
theorem ta_one {γ δ : Type} {rel : List Addr → Hp → γ → δ → Prop} {g : D → M γ} {σ : St} {H : Hp} {Q : δ → Hp → Prop} (h : tM G W rel (fun ρ => .bind (fa ρ) g) σ H Q) :
    tA G W (aCons fa aNil) σ H fun vs H' => ∃ v m F S d, vs = [v] ∧ Sim G m F S H' ∧ relD G m F d v ∧ Run G W σ rel (g d) m F S Q := by
  have e : (fun ρ => M.bind (fa ρ) g) = fun ρ => M.bind (aCons fa aNil ρ) fun ds => match ds with | [d] => g d | _ => .stuck := by
    funext ρ
    simp only [aCons, aNil, M.bind_assoc, M.ret_bind]
  rw [e] at h
  refine (tM.bind h).imp fun vs H' ⟨m, F, ρ, S, ds, s, _, hx, r⟩ => ?_
  cases ds with
  | nil => exact (Run.stuck (α := γ) (rel := rel) r).elim
  | cons d ds =>
    cases ds with
    | nil =>
      obtain ⟨v, r', rfl, h1, h2⟩ := hx
      obtain rfl : r' = [] := h2
      exact ⟨v, m, F, S, d, rfl, s, h1, r⟩
    | cons _ _ => exact (Run.stuck (α := γ) (rel := rel) r).elim
theorem ta_two {γ δ : Type} {rel : List Addr → Hp → γ → δ → Prop} {g : D → D → M γ} {σ : St} {H : Hp} {Q : δ → Hp → Prop} (h : tM G W rel (fun ρ => .bind (fa ρ) fun x => .bind (fb ρ) fun y => g x y) σ H Q) :
    tA G W (aCons fa (aCons fb aNil)) σ H fun vs H' => ∃ v w m F S d e, vs = [v, w] ∧ Sim G m F S H' ∧ relD G m F d v ∧ relD G m F e w ∧ Run G W σ rel (g d e) m F S Q := by
  have e : (fun ρ => M.bind (fa ρ) fun x => .bind (fb ρ) fun y => g x y) = fun ρ => M.bind (aCons fa (aCons fb aNil) ρ) fun ds => match ds with | [d, e] => g d e | _ => .stuck := by
    funext ρ
    simp only [aCons, aNil, M.bind_assoc, M.ret_bind]
  rw [e] at h
  refine (tM.bind h).imp fun vs H' ⟨m, F, ρ, S, ds, s, _, hx, r⟩ => ?_
  match ds, hx, r with
  | [], _, r => exact (Run.stuck (α := γ) (rel := rel) r).elim
  | [_], _, r => exact (Run.stuck (α := γ) (rel := rel) r).elim
  | [d, e], hx, r =>
    obtain ⟨v, r', rfl, h1, w, r2, rfl, h2, h3⟩ := hx
    obtain rfl : r2 = [] := h3
    exact ⟨v, w, m, F, S, d, e, rfl, s, h1, h2, r⟩
  | _ :: _ :: _ :: _, _, r => exact (Run.stuck (α := γ) (rel := rel) r).elim
theorem si_rng1 {p : Pos} (hg : Gl X "range") (hm : X.mg "range" = none) (ha : SE X G W a fa) (hs : noStar a = true) : SI X G W tg (.Call (.Name "range" p) [a] [] pos) (iRng1 fa) := by
  refine PIimp (pi_range1 hg hm (sa_one ha hs) (by rw [starEach_one hs]; rfl)) fun σ H R h => ?_
  refine (ta_one h).imp fun vs H1 ⟨v, m, F, S, d, ev, s, hx, r⟩ => ?_
  cases d with
  | int j =>
    cases hx
    obtain ⟨⟨h1, h2⟩, r⟩ := Run.guard (x := M.ret (Itm.mk (rngL 0 j) .non)) r
    refine ⟨j, ev, h1, h2, r.ret s ?_⟩
    have := relI_range (G := G) (m := m) (F := F) 0 j
    rw [Int.sub_zero] at this
    exact this
  | _ => exact (Run.stuck (α := Itm) (rel := relI G) r).elim
theorem si_rng2 {p : Pos} (hg : Gl X "range") (hm : X.mg "range" = none) (ha : SE X G W a fa) (hb : SE X G W b fb) (hs : noStar a = true) (hs2 : noStar b = true) : SI X G W tg (.Call (.Name "range" p) [a, b] [] pos) (iRng2 fa fb) := by
  refine PIimp (pi_range2 hg hm (sa_cons ha (sa_one hb hs2) (starEach_one hs)) (by rw [starEach_one hs, starEach_one hs2]; rfl) (by rw [starEach_one hs2]; rfl)) fun σ H R h => ?_
  refine (ta_two h).imp fun vs H1 ⟨v, w, m, F, S, d, e, ev, s, hx, hy, r⟩ => ?_
  cases d with
  | int i =>
    cases e with
    | int j =>
      cases hx; cases hy
      obtain ⟨⟨⟨h1, h2⟩, h3, h4⟩, r⟩ := Run.guard (x := M.ret (Itm.mk (rngL i j) .non)) r
      exact ⟨i, j, ev, ⟨h1, h2, h3, h4⟩, r.ret s (relI_range i j)⟩
    | _ => exact (Run.stuck (α := Itm) (rel := relI G) r).elim
  | _ => cases e <;> exact (Run.stuck (α := Itm) (rel := relI G) r).elim

/-! ### enumerate, zip: new pairs -/
theorem zipL_get {xs ys : List D} {i : Nat} {d : D} (h : (zipL xs ys)[i]? = some d) : ∃ x y, xs[i]? = some x ∧ ys[i]? = some y ∧ d = .tup [x, y] := by
  unfold zipL at h
  rw [List.getElem?_map] at h
  cases e : (xs.zip ys)[i]? with
  | none => rw [e] at h; cases h
  | some p =>
    rw [e] at h; cases h
    rw [List.getElem?_zip_eq_some] at e
    exact ⟨p.1, p.2, e.1, e.2, rfl⟩
theorem zipL_length (xs ys : List D) : (zipL xs ys).length = min xs.length ys.length := by simp [zipL]
theorem enumL_get {xs : List D} {i : Nat} {d : D} (h : (enumL xs)[i]? = some d) : ∃ x, xs[i]? = some x ∧ d = .tup [.int (i : Nat), x] := by
  unfold enumL at h
  rw [List.getElem?_map, List.getElem?_zipIdx] at h
  cases e : xs[i]? with
  | none => rw [e] at h; cases h
  | some p => rw [e] at h; cases h; exact ⟨p, rfl, by simp⟩
theorem enumL_length (xs : List D) : (enumL xs).length = xs.length := by simp [enumL]
/-- a new pair is frozen -/
theorem new_pair {m : List Addr} {F : Hp} {S : Store} {H : Hp} (s : Sim G m F S H) {T : Addr} {x y : V} {d e : D} (hT : H T = none) (hx : relD G m F d x) (hy : relD G m F e y) : ∃ F2, Ext m F m F2 ∧ Sim G m F2 S (upd H T (.tup [x, y])) ∧ relD G m F2 (.tup [d, e]) (.ref T) := by
  obtain ⟨s2, e2⟩ := s.newF (o := .tup [x, y]) hT
  exact ⟨_, e2, s2, T, [x, y], rfl, .inl upd_same, .cons (hx.mono e2) (.cons (hy.mono e2) relDs.nil)⟩
theorem si_zip {p tpos : Pos} {elts : List Expr} {kk : Nat} (hK : X.K = G.K) (hg : Gl X "zip") (hm : X.mg "zip" = none) (ha : SE X G W a fa) (hb : SE X G W b fb) (hs : noStar a = true) (hs2 : noStar b = true) : SI X G W (.Tuple elts kk tpos) (.Call (.Name "zip" p) [a, b] [] pos) (iZip fa fb) := by
  refine PIimp (RZ.pi_zipA hg hm (sa_cons ha (sa_one hb hs2) (starEach_one hs)) (starEach_one hs) (noStar_any (by simp [hs2]))) fun σ H R h => ?_
  refine (ta_two h).imp fun vs H1 ⟨v, w, m, F, S, d, e, ev, s, hx, hy, r⟩ => ?_
  obtain ⟨hk, r⟩ := r.guard
  obtain ⟨ds, src, q1, ok1, r⟩ := seq_run r s hx
  obtain ⟨es, src2, q2, ok2, r⟩ := seq_run r s hy
  rw [hK]
  have hkk : isTupD d = isTupD e := by
    cases d <;> cases e <;> first | rfl | cases hk
  cases hd : isTupD d with
  | true =>
    rw [hd] at q1
    rw [← hkk, hd] at q2
    obtain ⟨ad, vs1, rfl, a1, a2, a3⟩ := seq_tup q1 s ok1
    obtain ⟨bd, ws1, rfl, b1, b2, b3⟩ := seq_tup q2 s ok2
    refine ⟨ad, bd, vs1, ws1, ev, .inr ⟨a2, b2, Run.ret (rel := relI G) r s fun m' F' S' H' e' s' ok' => ⟨fun i hi => ?_, fun i d' hd' => ?_⟩⟩⟩
    · have hi : (zipL ds es).length ≤ i := hi
      rw [zipL_length] at hi
      exact ⟨vs1, ws1, a3 _ _ _ _ e' s' ok'.1, b3 _ _ _ _ e' s' ok'.2, by rw [← a1.length, ← b1.length]; omega⟩
    · obtain ⟨x, y, z1, z2, rfl⟩ := zipL_get hd'
      obtain ⟨v1, v2, v3⟩ := (a1.mono e').get z1
      obtain ⟨w1, w2, w3⟩ := (b1.mono e').get z2
      refine ⟨⟨vs1, ws1, v1, w1, a3 _ _ _ _ e' s' ok'.1, b3 _ _ _ _ e' s' ok'.2, v2, w2⟩, fun x' H2 yy => ?_⟩
      obtain ⟨T, x2, y2, rfl, hT, rfl, g1, g2⟩ := yy
      have k1 := g1 _ (a3 _ _ _ _ e' s' ok'.1)
      have k2 := g2 _ (b3 _ _ _ _ e' s' ok'.2)
      rw [v2] at k1; cases k1
      rw [w2] at k2; cases k2
      exact new_pair s' hT v3 w3
  | false =>
    rw [hd] at q1
    rw [← hkk, hd] at q2
    obtain ⟨ad, rfl, ⟨vs0, a2⟩, a3⟩ := seq_lst q1 s ok1
    obtain ⟨bd, rfl, ⟨ws0, b2⟩, b3⟩ := seq_lst q2 s ok2
    refine ⟨ad, bd, vs0, ws0, ev, .inl ⟨a2, b2, Run.ret (rel := relI G) r s fun m' F' S' H' e' s' ok' => ?_⟩⟩
    obtain ⟨vs1, a4, a5⟩ := a3 _ _ _ _ e' s' ok'.1
    obtain ⟨ws1, b4, b5⟩ := b3 _ _ _ _ e' s' ok'.2
    refine ⟨fun i hi => ?_, fun i d' hd' => ?_⟩
    · have hi : (zipL ds es).length ≤ i := hi
      rw [zipL_length] at hi
      exact ⟨vs1, ws1, a4, b4, by rw [← a5.length, ← b5.length]; omega⟩
    · obtain ⟨x, y, z1, z2, rfl⟩ := zipL_get hd'
      obtain ⟨v1, v2, v3⟩ := a5.get z1
      obtain ⟨w1, w2, w3⟩ := b5.get z2
      refine ⟨⟨vs1, ws1, v1, w1, a4, b4, v2, w2⟩, fun x' H2 yy => ?_⟩
      obtain ⟨T, x2, y2, rfl, hT, rfl, g1, g2⟩ := yy
      have k1 := g1 _ a4
      have k2 := g2 _ b4
      rw [v2] at k1; cases k1
      rw [w2] at k2; cases k2
      exact new_pair s' hT v3 w3
/-- enumerate over a list or a tuple -/
def iEnA (K : PySem.W.Frag) (tl : TA) : TI := fun σ H R => tl σ H fun vs H1 => ∃ a, vs = [.ref a] ∧ ((∃ xs, SqT K H1 a xs ∧ R (MPE.IteT K a xs) H1) ∨ ((∃ xs, SqL K H1 a xs) ∧ R (Ite K a) H1))
theorem pi_enA {e : Expr} {ta : TA} {p tpos : Pos} {elts : List Expr} {kk : Nat} (hg : Gl X "enumerate") (hm : X.mg "enumerate" = none) (ha : PA X [e] ta) (hs : starEach [e] X.env = [(false, eval e X.env)]) :
    PI X (.Tuple elts kk tpos) (.Call (.Name "enumerate" p) [e] [] pos) (iEnA X.K ta) := by
  refine ⟨fun pins s σ H R I h => ?_⟩
  refine Call_ (ld_blt I hg hm boot_enumerate (PyProof.Rows.callWith_type1 (thn (ha.run pos pins s σ H _ I h) fun us s1 ⟨vs, H1, I1, r1, q1⟩ => ?_) hs rfl))
  obtain ⟨a, ex, q1⟩ := q1
  subst ex
  cases r1 with
  | cons r rr =>
    cases rr
    cases r
    have fresh : ∀ b ∈ [s1.heap.objs.size + 1, s1.heap.objs.size], FpOk X pins H1 b := fun b hb => by
      have e' : b = s1.heap.objs.size + 1 ∨ b = s1.heap.objs.size := by simpa using hb
      have hle : s1.heap.objs.size ≤ b := by
        rcases e' with z | z
        · rw [z]; exact Nat.le_add_right _ _
        · rw [z]; exact Nat.le_refl _
      exact I1.fpOk hle (I1.hok.fresh hle)
    rcases q1 with ⟨xs, hq, q⟩ | ⟨⟨xs, hq⟩, q⟩
    · obtain ⟨its, rv, p', hz⟩ := I1.tuple hq
      obtain ⟨o1, ho1, _⟩ := id p'
      have hlt := Heap.lt_size ho1
      refine MPE.call_enumerate_tuple (show s1.heap.IsTuple a its.toArray from p') fun h' he hit hsz hk => wpAny_pyIter_enum he ?_
      have I2 : Inv X pins σ H1 { s1 with heap := h' } := I1.kept (t' := s1.toks) hk
      exact ⟨s1.heap.objs.size + 1, [s1.heap.objs.size + 1, s1.heap.objs.size], _, _, H1, rfl, I2, MPE.turn_enumT a (s1.heap.objs.size + 1) s1.heap.objs.size xs, ⟨⟨.none, he⟩, hit, Nat.succ_ne_self _, Nat.ne_of_lt hlt, Nat.ne_of_lt (Nat.lt_succ_of_lt hlt), Nat.zero_le _⟩, fresh, q⟩
    · obtain ⟨its, rv, p', hz⟩ := I1.list hq
      refine call_enumerate_list p'.isList fun h' he hit hsz hk => wpAny_pyIter_enum he ?_
      have I2 : Inv X pins σ H1 { s1 with heap := h' } := I1.kept (t' := s1.toks) hk
      exact ⟨s1.heap.objs.size + 1, [s1.heap.objs.size + 1, s1.heap.objs.size], _, _, H1, rfl, I2, turn_enum a (s1.heap.objs.size + 1) s1.heap.objs.size, ⟨⟨.none, he⟩, hit, Nat.succ_ne_self _⟩, fresh, q⟩
theorem si_enum {p tpos : Pos} {elts : List Expr} {kk : Nat} (hK : X.K = G.K) (hg : Gl X "enumerate") (hm : X.mg "enumerate" = none) (ha : SE X G W a fa) (hs : noStar a = true) : SI X G W (.Tuple elts kk tpos) (.Call (.Name "enumerate" p) [a] [] pos) (iEnum' fa) := by
  refine PIimp (pi_enA hg hm (sa_one ha hs) (by rw [starEach_one hs]; rfl)) fun σ H R h => ?_
  refine (ta_one h).imp fun vs H1 ⟨v, m, F, S, d, ev, s, hx, r⟩ => ?_
  obtain ⟨ds, src, q1, ok1, r⟩ := seq_run r s hx
  rw [hK]
  cases hd : isTupD d with
  | true =>
    rw [hd] at q1
    obtain ⟨ad, vs1, rfl, a1, a2, a3⟩ := seq_tup q1 s ok1
    refine ⟨ad, ev, .inl ⟨vs1, a2, Run.ret (rel := relI G) r s fun m' F' S' H' e' s' ok' => ⟨fun i hi => ⟨a3 _ _ _ _ e' s' ok', ?_⟩, fun i d' hd' => ?_⟩⟩⟩
    · have hi : (enumL ds).length ≤ i := hi
      rw [enumL_length] at hi
      rw [← a1.length]; exact hi
    · obtain ⟨x, z1, rfl⟩ := enumL_get hd'
      obtain ⟨v1, v2, v3⟩ := (a1.mono e').get z1
      refine ⟨⟨v1, a3 _ _ _ _ e' s' ok', v2⟩, fun x' H2 yy => ?_⟩
      obtain ⟨T, x2, rfl, hT, rfl, g1⟩ := yy
      rw [v2] at g1; cases g1
      exact new_pair s' hT rfl v3
  | false =>
    rw [hd] at q1
    obtain ⟨ad, rfl, q0, a3⟩ := seq_lst q1 s ok1
    refine ⟨ad, ev, .inr ⟨q0, Run.ret (rel := relI G) r s fun m' F' S' H' e' s' ok' => ?_⟩⟩
    obtain ⟨vs1, a4, a5⟩ := a3 _ _ _ _ e' s' ok'
    refine ⟨fun i hi => ⟨vs1, a4, ?_⟩, fun i d' hd' => ?_⟩
    · have hi : (enumL ds).length ≤ i := hi
      rw [enumL_length] at hi
      rw [← a5.length]; exact hi
    · obtain ⟨x, z1, rfl⟩ := enumL_get hd'
      obtain ⟨v1, v2, v3⟩ := a5.get z1
      refine ⟨⟨vs1, v1, a4, v2⟩, fun x' H2 yy => ?_⟩
      obtain ⟨T, x2, rfl, hT, rfl, g1⟩ := yy
      have k1 := g1 _ a4
      rw [v2] at k1; cases k1
      exact new_pair s' hT rfl v3
end
end MP

/-! MPK: list comprehensions. -/
namespace MP
open PySem PySem.Spec PyProof.Rows L2

open Classical in
/-- the turns of a comprehension whose list stands at the cell r -/
noncomputable def compGo (r : Nat) (src : Src) (tg : Tg) (cond : Tv) (elt : Ev) (ρ0 : En) : List D → Store → Option (R D)
  | [], S => if src.ok S then some (.ok (.ref r) S) else none
  | d :: ds, S => if src.ok S then
      (match tg.asg d ρ0 with
      | none => none
      | some ρ1 => (match cond ρ1 S with
        | some (.ok false S2) => compGo r src tg cond elt ρ0 ds S2
        | some (.ok true S2) => (match elt ρ1 S2 with
          | some (.ok y S3) => (match S3[r]? with
            | some (.lst acc) => if acc.length < sizeLine then compGo r src tg cond elt ρ0 ds (S3.set r (.lst (acc ++ [y]))) else none
            | _ => none)
          | _ => none)
        | _ => none))
    else none
def tTrue : Tv := fun _ => .ret true
noncomputable def eComp (own : List Nat) (it : Iv) (tg : Tg) (cond : Tv) (elt : Ev) : Ev := fun ρ => .bind (it ρ) fun itm => fun S =>
  compGo S.length itm.src tg cond elt (own.foldr (fun i ρ => ρ.set i none) ρ) itm.items (S ++ [.lst []])

/-- nothing is wished of exceptions -/
abbrev W0 : WX := fun _ _ _ _ => False
section
variable {Γ : Pg} {X : Cx} {G : GW} {W : WX} {C : Calls} {a b c e tg iter elt : Expr} {pos : Pos} {fa fb : Ev} {k : Nat}
theorem relE.wipe {m : List Addr} {F : Hp} {ρ : En} {σ : St} (r : relE G m F ρ σ) : ∀ (vs : List Nat), relE G m F (vs.foldr (fun i ρ => ρ.set i none) ρ) (wipe σ vs)
  | [] => r
  | v :: vs => by
    have ih := relE.wipe r vs
    refine ⟨by unfold L2.wipe; simp only [List.foldr_cons, List.length_set]; exact ih.len, fun i d h => ?_⟩
    simp only [List.foldr_cons] at h
    by_cases hi : v = i
    · subst hi
      have hl : v < (vs.foldr (fun i ρ => ρ.set i none) ρ).length := by have := (List.getElem?_eq_some_iff.mp h).1; simpa using this
      rw [List.getElem?_set_self hl] at h; cases h
    · rw [List.getElem?_set_ne hi] at h
      unfold L2.wipe
      rw [List.getElem?_set_ne hi]
      exact ih.get i d h
theorem wipe_in {σ : St} {i : Nat} : ∀ {vs : List Nat}, i ∈ vs → i < σ.length → (wipe σ vs)[i]? = some none
  | [], h, _ => by cases h
  | v :: vs, h, hl => by
    unfold wipe
    by_cases hi : v = i
    · subst hi
      rw [List.getElem?_set_self (by rw [wipe_length]; exact hl)]
    · rw [List.getElem?_set_ne hi]
      exact wipe_in (by rcases List.mem_cons.mp h with e | h; exact absurd e.symm hi; exact h) hl
theorem wipe_again {σ σ2 : St} {vs ts : List Nat} (hl : σ2.length = σ.length) (hs : ∀ i, i ∈ ts → i ∈ vs) (h : ∀ i, i ∉ ts → σ2[i]? = (wipe σ vs)[i]?) : wipe σ2 vs = wipe σ vs := by
  apply List.ext_getElem?
  intro i
  by_cases hi : i ∈ vs
  · by_cases hi2 : i < σ.length
    · rw [wipe_in hi (by omega), wipe_in hi hi2]
    · rw [List.getElem?_eq_none (by rw [wipe_length]; omega), List.getElem?_eq_none (by rw [wipe_length]; omega)]
  · rw [wipe_out hi, h i (fun z => hi (hs i z))]
/-- a run that ends well, whatever is wished of exceptions -/
theorem run_of {α β : Type} {rel : List Addr → Hp → α → β → Prop} {x : M α} {σ : St} {m : List Addr} {F : Hp} {S S' : Store} {y : α} {Q : β → Hp → Prop} (e : x S = some (.ok y S')) (q : ∀ m' F' H' b, Ext m F m' F' → Sim G m' F' S' H' → rel m' F' y b → Q b H') : Run G W σ rel x m F S Q := ⟨_, e, q⟩
theorem asg_length {t : Tg} {d : D} {ρ ρ' : En} (h : t.asg d ρ = some ρ') : ρ'.length = ρ.length := by
  cases t with
  | one i => cases h; simp
  | many is =>
    cases d with
    | tup ds =>
      have e' : (if ds.length = is.length then some (setAll ρ is ds) else none) = some ρ' := h
      split at e'
      · cases e'; exact setAll_length
      · cases e'
    | _ => cases h
theorem comp_red (g : GX X G W k) {f : Iv} {t : Tg} {fc : Tv} {fe : Ev} {own : List Nat} (hsub : ∀ i, i ∈ t.slots → i ∈ own) {σ : St} {H : Hp} {Q : VK} (h : tE G W (eComp own f t fc fe) σ H Q) :
    tLc (tM G W (relI G) f) (t.g X.K) (tT G W0 fc) (tE G W0 fe) own σ H Q := by
  refine (tM.bind h).imp fun J H1 ⟨m, F, ρ, S, itm, s, hρ, hI, r⟩ => ?_
  intro Dn hD
  obtain ⟨rr, hr, hq⟩ := r
  generalize hρ0 : own.foldr (fun i (ρ : En) => ρ.set i none) ρ = ρ0 at hr
  have hρw : relE G m F ρ0 (wipe σ own) := by rw [← hρ0]; exact hρ.wipe _
  obtain ⟨s0, e0⟩ := s.newC (c := .lst []) (o := .lst []) hD ⟨[], rfl, rfl⟩
  refine ⟨fun i n H' => n = itm.items.length - i ∧ i ≤ itm.items.length ∧ ∃ m' F' S', Ext (m ++ [Dn]) F m' F' ∧ Sim G m' F' S' H' ∧ compGo S.length itm.src t fc fe ρ0 (itm.items.drop i) S' = some rr, ⟨itm.items.length, by simp, Nat.zero_le _, _, F, _, .refl, s0, by simpa using hr⟩, ?_⟩
  rintro i n H' ⟨rfl, hi2, m', F', S', e1, s1, hgo⟩
  have eA := e0.trans e1
  have hDm : m'[S.length]? = some Dn := e1.pre _ _ (by rw [← s.len]; simp)
  by_cases hlt : i < itm.items.length
  · have hdrop : itm.items.drop i = itm.items[i] :: itm.items.drop (i + 1) := (List.getElem_cons_drop hlt).symm
    rw [hdrop] at hgo
    unfold compGo at hgo
    split at hgo
    case isFalse => cases hgo
    rename_i hok
    obtain ⟨_, hy⟩ := hI m' F' S' H' eA s1 hok
    obtain ⟨hgo1, hyl⟩ := hy i _ (List.getElem?_eq_getElem hlt)
    refine .inr ⟨hgo1, fun H'' => (i + 1 ≤ itm.items.length ∧ ∃ m' F' S', Ext (m ++ [Dn]) F m' F' ∧ Sim G m' F' S' H'' ∧ compGo S.length itm.src t fc fe ρ0 (itm.items.drop (i + 1)) S' = some rr), fun H'' hN => ⟨itm.items.length - (i + 1), by omega, rfl, hN⟩, fun x H2 hyx => ?_⟩
    obtain ⟨F2, e2, s2, hx⟩ := hyl x H2 hyx
    split at hgo
    · cases hgo
    · rename_i ρ1 hasg
      rw [g.hK]
      have eB := eA.trans e2
      refine Tg.g_ok s2 (hρw.mono eB) hx hasg fun σ2 hσ2 hne => ⟨?_, ?_⟩
      · have hl2 : σ2.length = σ.length := by rw [← hσ2.len, asg_length hasg, hρw.len, wipe_length]
        exact wipe_again hl2 hsub hne
      · split at hgo
        · rename_i S2 hc
          refine ⟨m', F2, ρ1, S', s2, hσ2, run_of hc fun m3 F3 H3 b e3 s3 hb => ?_⟩
          cases hb
          simp only [Bool.false_eq_true, if_false]
          exact ⟨hlt, m3, F3, S2, (e1.trans e2).trans e3, s3, hgo⟩
        · rename_i S2 hc
          refine ⟨m', F2, ρ1, S', s2, hσ2, run_of hc fun m3 F3 H3 b e3 s3 hb => ?_⟩
          cases hb
          simp only [if_true]
          split at hgo
          · rename_i y S3 hy2
            refine ⟨m3, F3, ρ1, S2, s3, hσ2.mono e3, run_of hy2 fun m4 F4 H4 v e4 s4 hv => ?_⟩
            have eC := ((e1.trans e2).trans e3).trans e4
            have hD4 : m4[S.length]? = some Dn := eC.pre _ _ (by rw [← s.len]; simp)
            split at hgo
            · rename_i acc hacc
              split at hgo
              · rename_i hlen
                obtain ⟨vs, hvs, hrel⟩ := s4.cel _ _ _ hD4 hacc
                refine ⟨vs, hvs, by rw [← hrel.length]; exact hlen, hlt, m4, F4, _, eC, s4.write (c := .lst (acc ++ [y])) hD4 ⟨vs ++ [v], rfl, hrel.append (.cons hv relDs.nil)⟩, hgo⟩
              · cases hgo
            · cases hgo
          · cases hgo
        · cases hgo
  · have e : i = itm.items.length := by omega
    subst e
    rw [List.drop_length] at hgo
    unfold compGo at hgo
    split at hgo
    · rename_i hok
      cases hgo
      obtain ⟨hst, _⟩ := hI m' F' S' H' eA s1 hok
      exact .inl ⟨hst _ (Nat.le_refl _), hq m' F' H' _ eA s1 ⟨Dn, rfl, hDm⟩⟩
    · cases hgo
theorem se_comp (g : GX X G W k) {f : Iv} {t : Tg} {fc : Tv} {fe : Ev} {ifs : List Expr} {scope : Scope} {own : List (Str × Nat)} (hi : SI X G W tg iter f) (ok : BlkOk X.N X.env.scope scope own)
    (hg : ∀ (s : Shared) (H : Hp) (C : Addr) (cl : List (Str × Addr)) (fp : List Addr), SG (X.blk s H scope (compEnvC scope cl C X.env) fp) tg t)
    (ht : ∀ (s : Shared) (H : Hp) (C : Addr) (cl : List (Str × Addr)) (fp : List Addr), PTs (X.blk s H scope (compEnvC scope cl C X.env) fp) ifs (tT G W0 fc))
    (he : ∀ (s : Shared) (H : Hp) (C : Addr) (cl : List (Str × Addr)) (fp : List Addr), SE (X.blk s H scope (compEnvC scope cl C X.env) fp) G W0 elt fe) (hs : ∀ x, foldedSetIterable iter X.env x = pure x) (hsub : ∀ i, i ∈ t.slots → i ∈ own.map (·.2)) :
    SE X G W (.ListComp elt [⟨tg, iter, ifs, 0⟩] scope pos) (eComp (own.map (·.2)) f t fc fe) :=
  PEimp (pe_lc g.calm g.nd hi ok (g := t.g X.K) hg ht he hs) fun σ H Q h => comp_red g hsub h
end
end MP

/-! MPL: statements. -/
namespace MP
open PySem PySem.Spec PyProof.Rows L2

/-- a value first, then the rest -/
def sBind {α : Type} (x : En → M α) (k : α → Sv) : Sv := fun ρ S => match x ρ S with
  | some (.ok a S') => k a ρ S'
  | some (.ex e S') => some (.ex e ρ S')
  | none => none
def sNx : Sv := fun ρ S => some (.nx ρ S)
def sBk : Sv := fun ρ S => some (.bk ρ S)
def sCt : Sv := fun ρ S => some (.ct ρ S)
def sRt (d : D) : Sv := fun _ S => some (.rt d S)
def sStuck : Sv := fun _ _ => none
def sSeq (f g : Sv) : Sv := fun ρ S => match f ρ S with
  | some (.nx ρ' S') => g ρ' S'
  | r => r
def sRet (e : Ev) : Sv := sBind e sRt
def sDrop (e : Ev) : Sv := sBind e fun _ => sNx
def sIf (t : Tv) (f g : Sv) : Sv := sBind t fun b => if b then f else g
def optS (f : En → Option En) : Sv := fun ρ S => match f ρ with
  | some ρ' => some (.nx ρ' S)
  | none => none
/-- what a target does with a value -/
abbrev Gv := D → Sv
def sAsg (g : Gv) (e : Ev) : Sv := sBind e g
def gOne (i : Nat) : Gv := fun d => optS fun ρ => some (ρ.set i (some d))
def gAll : List Gv → List D → Sv
  | [], [] => sNx
  | g :: gs, d :: ds => sSeq (g d) (gAll gs ds)
  | _, _ => sStuck
def gTupG (gs : List Gv) : Gv := fun d => match d with
  | .tup ds => if ds.length = gs.length then gAll gs ds else sStuck
  | _ => sStuck
def sPar (is : List Nat) (a : Av) : Sv := sBind a fun ds => optS fun ρ => if ds.length = is.length then some (setAll ρ is ds) else none
/-- a turn of a loop, then the next turns -/
def turnS (b : Sv) (k : Sv) : Sv := fun ρ S => match b ρ S with
  | some (.nx ρ' S') => k ρ' S'
  | some (.ct ρ' S') => k ρ' S'
  | some (.bk ρ' S') => some (.nx ρ' S')
  | r => r
def whileN (t : Tv) (b : Sv) : Nat → Sv
  | 0 => sStuck
  | n + 1 => sBind t fun c => if c then turnS b (whileN t b n) else sNx
open Classical in
noncomputable def sWhile (t : Tv) (b : Sv) : Sv := fun ρ S => if h : ∃ n, (whileN t b n ρ S).isSome then whileN t b h.choose ρ S else none
open Classical in
noncomputable def forGo (src : Src) (tg : Tg) (b : Sv) : List D → Sv
  | [] => fun ρ S => if src.ok S then some (.nx ρ S) else none
  | d :: ds => fun ρ S => if src.ok S then sSeq (optS (tg.asg d)) (turnS b (forGo src tg b ds)) ρ S else none
noncomputable def sFor (it : Iv) (tg : Tg) (b : Sv) : Sv := sBind it fun itm => forGo itm.src tg b itm.items
theorem whileN_mono {t : Tv} {b : Sv} : ∀ {n : Nat} {ρ : En} {S : Store} {r : RS}, whileN t b n ρ S = some r → ∀ m, n ≤ m → whileN t b m ρ S = some r
  | 0, ρ, S, r, h, _, _ => by cases h
  | n + 1, ρ, S, r, h, 0, hm => by omega
  | n + 1, ρ, S, r, h, m + 1, hm => by
    unfold whileN sBind at h ⊢
    cases e : t ρ S with
    | none => rw [e] at h; cases h
    | some q =>
      rw [e] at h
      cases q with
      | ex x S' => exact h
      | ok c S' =>
        simp only at h ⊢
        cases c with
        | false => exact h
        | true =>
          simp only [if_true] at h ⊢
          unfold turnS at h ⊢
          cases e2 : b ρ S' with
          | none => rw [e2] at h; cases h
          | some q =>
            rw [e2] at h
            cases q with
            | nx ρ' S2 => exact whileN_mono (n := n) h m (by omega)
            | ct ρ' S2 => exact whileN_mono (n := n) h m (by omega)
            | bk ρ' S2 => exact h
            | rt d S2 => exact h
            | ex x ρ' S2 => exact h
theorem sWhile_of {t : Tv} {b : Sv} {n : Nat} {ρ : En} {S : Store} {r : RS} (h : whileN t b n ρ S = some r) : sWhile t b ρ S = some r := by
  have hx : ∃ n, (whileN t b n ρ S).isSome := ⟨n, by rw [h]; rfl⟩
  unfold sWhile
  rw [dif_pos hx]
  cases e : whileN t b hx.choose ρ S with
  | none => have := hx.choose_spec; rw [e] at this; cases this
  | some q =>
    have h1 := whileN_mono e (max n hx.choose) (by omega)
    have h2 := whileN_mono h (max n hx.choose) (by omega)
    rw [h1] at h2; exact h2
theorem sWhile_some {t : Tv} {b : Sv} {ρ : En} {S : Store} {r : RS} (h : sWhile t b ρ S = some r) : ∃ n, whileN t b n ρ S = some r := by
  unfold sWhile at h
  split at h
  · exact ⟨_, h⟩
  · cases h
/-- a while's turn -/
theorem sWhile_step {t : Tv} {b : Sv} {ρ : En} {S : Store} {r : RS} (h : (sBind t fun c => if c then turnS b (sWhile t b) else sNx) ρ S = some r) : sWhile t b ρ S = some r := by
  unfold sBind at h
  cases e : t ρ S with
  | none => rw [e] at h; cases h
  | some q =>
    rw [e] at h
    cases q with
    | ex x S' => exact sWhile_of (n := 1) (by unfold whileN sBind; rw [e]; exact h)
    | ok c S' =>
      simp only at h
      cases c with
      | false => exact sWhile_of (n := 1) (by unfold whileN sBind; rw [e]; exact h)
      | true =>
        simp only [if_true] at h
        unfold turnS at h
        cases e2 : b ρ S' with
        | none => rw [e2] at h; cases h
        | some q =>
          rw [e2] at h
          cases q with
          | nx ρ' S2 =>
            obtain ⟨n, hn⟩ := sWhile_some h
            exact sWhile_of (n := n + 1) (by unfold whileN sBind; rw [e]; simp only [if_true]; unfold turnS; rw [e2]; exact hn)
          | ct ρ' S2 =>
            obtain ⟨n, hn⟩ := sWhile_some h
            exact sWhile_of (n := n + 1) (by unfold whileN sBind; rw [e]; simp only [if_true]; unfold turnS; rw [e2]; exact hn)
          | bk ρ' S2 => exact sWhile_of (n := 1) (by unfold whileN sBind; rw [e]; simp only [if_true]; unfold turnS; rw [e2]; exact h)
          | rt d S2 => exact sWhile_of (n := 1) (by unfold whileN sBind; rw [e]; simp only [if_true]; unfold turnS; rw [e2]; exact h)
          | ex x ρ' S2 => exact sWhile_of (n := 1) (by unfold whileN sBind; rw [e]; simp only [if_true]; unfold turnS; rw [e2]; exact h)

/-- a statement's end, and what is wished of it -/
def EndS (G : GW) (W : WX) (m : List Addr) (F : Hp) (D : Ends) : RS → Prop
  | .nx ρ S => ∀ m' F' H' σ', Ext m F m' F' → Sim G m' F' S H' → relE G m' F' ρ σ' → D.nx σ' H'
  | .bk ρ S => ∀ m' F' H' σ', Ext m F m' F' → Sim G m' F' S H' → relE G m' F' ρ σ' → D.bk σ' H'
  | .ct ρ S => ∀ m' F' H' σ', Ext m F m' F' → Sim G m' F' S H' → relE G m' F' ρ σ' → D.ct σ' H'
  | .rt d S => ∀ m' F' H' v, Ext m F m' F' → Sim G m' F' S H' → relD G m' F' d v → D.rt v H'
  | .ex e ρ S => ∀ m' F' H' σ' d ws, Ext m F m' F' → Sim G m' F' S H' → relE G m' F' ρ σ' → F' d = some (.xd ws) → e.fs.map (·.1) = ws.map (·.1) → relDs G m' F' (e.fs.map (·.2)) (ws.map (·.2)) → W (.ref (G.clA e.c)) (some d) σ' H'
def RunS (G : GW) (W : WX) (x : Option RS) (m : List Addr) (F : Hp) (D : Ends) : Prop := ∃ r, x = some r ∧ EndS G W m F D r
def tS (G : GW) (W : WX) (f : Sv) : TS := fun D σ H => ∃ m F ρ S, Sim G m F S H ∧ relE G m F ρ σ ∧ RunS G W (f ρ S) m F D
theorem EndS.mono {G : GW} {W : WX} {m m' : List Addr} {F F' : Hp} {D : Ends} (e : Ext m F m' F') : ∀ {r : RS}, EndS G W m F D r → EndS G W m' F' D r
  | .nx _ _, h => fun m2 F2 H2 σ2 e2 => h m2 F2 H2 σ2 (e.trans e2)
  | .bk _ _, h => fun m2 F2 H2 σ2 e2 => h m2 F2 H2 σ2 (e.trans e2)
  | .ct _ _, h => fun m2 F2 H2 σ2 e2 => h m2 F2 H2 σ2 (e.trans e2)
  | .rt _ _, h => fun m2 F2 H2 σ2 e2 => h m2 F2 H2 σ2 (e.trans e2)
  | .ex _ _ _, h => fun m2 F2 H2 σ2 d ws e2 => h m2 F2 H2 σ2 d ws (e.trans e2)
theorem RunS.mono {G : GW} {W : WX} {m m' : List Addr} {F F' : Hp} {D : Ends} {x : Option RS} (e : Ext m F m' F') (h : RunS G W x m F D) : RunS G W x m' F' D := let ⟨r, q, h⟩ := h; ⟨r, q, h.mono e⟩
theorem tS.bind {G : GW} {W : WX} {α β : Type} {rel : List Addr → Hp → α → β → Prop} {x : En → M α} {k : α → Sv} {D : Ends} {σ : St} {H : Hp} (h : tS G W (sBind x k) D σ H) :
    tM G W rel x σ H fun b H' => ∃ m F ρ S a, Sim G m F S H' ∧ relE G m F ρ σ ∧ rel m F a b ∧ RunS G W (k a ρ S) m F D := by
  obtain ⟨m, F, ρ, S, s, e, r, q, h⟩ := h
  refine ⟨m, F, ρ, S, s, e, ?_⟩
  unfold sBind at q
  cases ex : x ρ S with
  | none => rw [ex] at q; cases q
  | some r1 =>
    rw [ex] at q
    cases r1 with
    | ok a S' => exact ⟨_, ex, fun m' F' H' b e1 s1 r1 => ⟨m', F', ρ, S', a, s1, e.mono e1, r1, r, q, h.mono e1⟩⟩
    | ex y S' =>
      cases q
      exact ⟨_, ex, fun m' F' H' d ws e1 s1 hd h1 h2 => h m' F' H' σ d ws e1 s1 (e.mono e1) hd h1 h2⟩
theorem RunS.bind {G : GW} {W : WX} {α β : Type} {rel : List Addr → Hp → α → β → Prop} {x : En → M α} {k : α → Sv} {D : Ends} {σ : St} {m : List Addr} {F : Hp} {ρ : En} {S : Store} {H : Hp} (s : Sim G m F S H) (e : relE G m F ρ σ) (h : RunS G W (sBind x k ρ S) m F D) :
    Run G W σ rel (x ρ) m F S fun b H' => ∃ m' F' S' a, Ext m F m' F' ∧ Sim G m' F' S' H' ∧ relE G m' F' ρ σ ∧ rel m' F' a b ∧ RunS G W (k a ρ S') m' F' D := by
  obtain ⟨r, q, h⟩ := h
  unfold sBind at q
  cases ex : x ρ S with
  | none => rw [ex] at q; cases q
  | some r1 =>
    rw [ex] at q
    cases r1 with
    | ok a S' => exact ⟨_, ex, fun m' F' H' b e1 s1 r1 => ⟨m', F', S', a, e1, s1, e.mono e1, r1, r, q, h.mono e1⟩⟩
    | ex y S' =>
      cases q
      exact ⟨_, ex, fun m' F' H' d ws e1 s1 hd h1 h2 => h m' F' H' σ d ws e1 s1 (e.mono e1) hd h1 h2⟩

section
variable {Γ : Pg} {X : Cx} {G : GW} {W : WX} {C : Calls} {a b c e tg iter elt : Expr} {st : Stmt} {sts : List Stmt} {pos : Pos} {fa fb fe : Ev} {ft : Tv} {f g : Sv} {k : Nat}
abbrev SS (X : Cx) (G : GW) (W : WX) (st : Stmt) (f : Sv) : Prop := PS X st (tS G W f)
abbrev SSs (X : Cx) (G : GW) (W : WX) (st : List Stmt) (f : Sv) : Prop := PSs X st (tS G W f)
theorem tS.nx {D : Ends} {σ : St} {H : Hp} (h : tS G W sNx D σ H) : D.nx σ H := by
  obtain ⟨m, F, ρ, S, s, e, r, q, h⟩ := h
  cases q
  exact h m F H σ .refl s e
theorem RunS.nx {m : List Addr} {F : Hp} {ρ : En} {S : Store} {D : Ends} {σ : St} {H : Hp} (h : RunS G W (some (.nx ρ S)) m F D) (s : Sim G m F S H) (e : relE G m F ρ σ) : D.nx σ H := by
  obtain ⟨r, q, h⟩ := h
  cases q
  exact h m F H σ .refl s e
theorem sss_nil : SSs X G W [] sNx := PSsimp pss_nil fun D σ H h => h.nx
theorem ss_pass : SS X G W (.Pass pos) sNx := PSimp ps_pass fun D σ H h => h.nx
theorem ss_break : SS X G W (.Break pos) sBk := PSimp ps_break fun D σ H ⟨m, F, ρ, S, s, e, r, q, h⟩ => by
  cases q
  exact h m F H σ .refl s e
theorem ss_continue : SS X G W (.Continue pos) sCt := PSimp ps_continue fun D σ H ⟨m, F, ρ, S, s, e, r, q, h⟩ => by
  cases q
  exact h m F H σ .refl s e
theorem ss_doc {x j pos'} : SS X G W (.Expr (.Constant (.str x) j pos) pos') sNx := PSimp ps_doc fun D σ H h => h.nx
theorem tS.seq {D : Ends} {σ : St} {H : Hp} (h : tS G W (sSeq f g) D σ H) : tS G W f { D with nx := tS G W g D } σ H := by
  obtain ⟨m, F, ρ, S, s, e, r, q, h⟩ := h
  refine ⟨m, F, ρ, S, s, e, ?_⟩
  unfold sSeq at q
  cases ex : f ρ S with
  | none => rw [ex] at q; cases q
  | some r1 =>
    rw [ex] at q
    cases r1 with
    | nx ρ' S' => exact ⟨_, rfl, fun m' F' H' σ' e1 s1 r1 => ⟨m', F', ρ', S', s1, r1, r, q, h.mono e1⟩⟩
    | rt d S' => cases q; exact ⟨_, rfl, h⟩
    | bk ρ' S' => cases q; exact ⟨_, rfl, h⟩
    | ct ρ' S' => cases q; exact ⟨_, rfl, h⟩
    | ex x ρ' S' => cases q; exact ⟨_, rfl, h⟩
theorem sss_cons (h1 : SS X G W st f) (h2 : SSs X G W sts g) : SSs X G W (st :: sts) (sSeq f g) := PSsimp (pss_cons h1 h2) fun D σ H h => h.seq
theorem sss_one (h1 : SS X G W st f) : SSs X G W [st] f := pss_one h1
theorem ss_ret (he : SE X G W e fe) : SS X G W (.Return (some e) pos) (sRet fe) := by
  refine PSimp (ps_ret he) fun D σ H h => ?_
  refine (tS.bind h).imp fun x H1 ⟨m, F, ρ, S, d, s, _, hx, r, q, h⟩ => ?_
  cases q
  exact h m F H1 x .refl s hx
theorem ss_retN : SS X G W (.Return none pos) (sRt .non) := PSimp ps_retN fun D σ H ⟨m, F, ρ, S, s, e, r, q, h⟩ => by
  cases q
  exact h m F H .non .refl s rfl
theorem ss_drop (he : SE X G W e fe) (hs : swapsWith e none pos.line X.env = pure false) : SS X G W (.Expr e pos) (sDrop fe) := by
  refine PSimp (ps_expr he hs) fun D σ H h => ?_
  refine (tS.bind h).imp fun x H1 ⟨m, F, ρ, S, d, s, hρ, hx, h⟩ => h.nx s hρ
theorem ss_if {bt bf : List Stmt} (hc : ST X G W c ft) (ha : SSs X G W bt f) (hb : SSs X G W bf g) : SS X G W (.If c bt bf pos) (sIf ft f g) := by
  refine PSimp (ps_if hc ha hb) fun D σ H h => ?_
  refine (tS.bind h).imp fun x H1 ⟨m, F, ρ, S, d, s, hρ, hx, h⟩ => ?_
  obtain rfl : d = x := hx
  cases d with
  | true => exact ⟨m, F, ρ, S, s, hρ, h⟩
  | false => exact ⟨m, F, ρ, S, s, hρ, h⟩
/-- a target's reading -/
def tG (G : GW) (W : WX) (g : Gv) : TG := fun v σ H Q => ∃ m F ρ S d, Sim G m F S H ∧ relE G m F ρ σ ∧ relD G m F d v ∧ RunS G W (g d ρ S) m F { nx := Q, rt := fun _ _ => False }
abbrev SGv (X : Cx) (G : GW) (W : WX) (tg : Expr) (g : Gv) : Prop := PG X tg (tG G W g)
theorem PGimp {X : Cx} {e : Expr} {t t' : TG} (h : PG X e t) (w : ∀ v σ H Q, t' v σ H Q → t v σ H Q) : PG X e t' := ⟨fun pins s σ H v u Q I r q => h.run pins s σ H v u Q I r (w v σ H Q q)⟩
theorem sgv_one {i : Nat} {x : Str} (hN : X.N.Nodup) (hi : X.N[i]? = some x) (hx : Loc X.env.scope x) (hf : X.fn x = true ∨ X.env.scope.names.lookup x = some .local) : SGv X G W (.Name x pos) (gOne i) :=
  PGimp (pg_name hN hi hx hf) fun v σ H Q ⟨m, F, ρ, S, d, s, hρ, hd, r, q, h⟩ => by
    cases q
    exact h m F H _ .refl s (hρ.set i hd)
inductive SGs (X : Cx) (G : GW) (W : WX) : List Expr → List Gv → Prop
  | nil : SGs X G W [] []
  | cons {e : Expr} {es : List Expr} {g : Gv} {gs : List Gv} : SGv X G W e g → assignEach (e :: es) X.env = (false, assign e X.env) :: assignEach es X.env → SGs X G W es gs → SGs X G W (e :: es) (g :: gs)
def tGs (G : GW) (W : WX) (gs : List Gv) : TGs := fun vs σ H Q => ∃ m F ρ S ds, Sim G m F S H ∧ relE G m F ρ σ ∧ relDs G m F ds vs ∧ RunS G W (gAll gs ds ρ S) m F { nx := Q, rt := fun _ _ => False }
theorem RunS.seq {m : List Addr} {F : Hp} {ρ : En} {S : Store} {D : Ends} {N : St → Hp → Prop} (h : RunS G W (sSeq f g ρ S) m F D) (hN : ∀ m' F' ρ' S' σ' H', Ext m F m' F' → Sim G m' F' S' H' → relE G m' F' ρ' σ' → RunS G W (g ρ' S') m' F' D → N σ' H') : RunS G W (f ρ S) m F { D with nx := N } := by
  obtain ⟨r, q, h⟩ := h
  unfold sSeq at q
  cases ex : f ρ S with
  | none => rw [ex] at q; cases q
  | some r1 =>
    rw [ex] at q
    cases r1 with
    | nx ρ' S' => exact ⟨_, rfl, fun m' F' H' σ' e1 s1 r1 => hN m' F' ρ' S' σ' H' e1 s1 r1 ⟨r, q, h.mono e1⟩⟩
    | ct ρ' S' => cases q; exact ⟨_, rfl, h⟩
    | rt d S' => cases q; exact ⟨_, rfl, h⟩
    | bk ρ' S' => cases q; exact ⟨_, rfl, h⟩
    | ex x ρ' S' => cases q; exact ⟨_, rfl, h⟩
theorem SGs.pgs {es : List Expr} {gs : List Gv} (h : SGs X G W es gs) : PGs X es (tGs G W gs) ∧ (assignEach es X.env).length = gs.length ∧ (assignEach es X.env).findIdx? (·.1) = none := by
  induction h with
  | nil =>
    refine ⟨⟨fun pins s σ H vs us Q I r hw => ?_⟩, rfl, rfl⟩
    refine pgs_nil.run pins s σ H vs us Q I r ?_
    obtain ⟨m, F, ρ, S, ds, s', hρ, hd, h⟩ := hw
    cases ds with
    | nil =>
      obtain rfl : vs = [] := hd
      exact ⟨rfl, h.nx s' hρ⟩
    | cons _ _ => obtain ⟨_, q, _⟩ := h; cases q
  | @cons e es g gs h1 h2 _ ih =>
    obtain ⟨i1, i2, i3⟩ := ih
    refine ⟨⟨fun pins s σ H vs us Q I r hw => ?_⟩, by rw [h2, List.length_cons, List.length_cons, i2], ?_⟩
    · refine (pgs_cons h1 i1 (by rw [h2] <;> rfl)).run pins s σ H vs us Q I r ?_
      obtain ⟨m, F, ρ, S, ds, s', hρ, hd, h⟩ := hw
      cases ds with
      | nil => obtain ⟨_, q, _⟩ := h; cases q
      | cons d ds =>
        obtain ⟨v, vr, rfl, q1, q2⟩ := hd
        refine ⟨v, vr, rfl, m, F, ρ, S, d, s', hρ, q1, ?_⟩
        refine RunS.seq (D := { nx := Q, rt := fun _ _ => False }) h fun m' F' ρ' S' σ' H' e s2 hρ2 h2 => ?_
        exact ⟨m', F', ρ', S', ds, s2, hρ2, q2.mono e, h2⟩
    · rw [h2, List.findIdx?_cons]
      simp [i3]
theorem sgv_tup {es : List Expr} {gs : List Gv} {kk : Nat} (hc : X.calm = true) (hK : X.K = G.K) (h : SGs X G W es gs) : SGv X G W (.Tuple es kk pos) (gTupG gs) := by
  obtain ⟨h1, h2, h3⟩ := h.pgs
  refine PGimp (pg_tup (n := gs.length) hc h1 h2 h3) fun v σ H Q ⟨m, F, ρ, S, d, s, hρ, hd, h⟩ => ?_
  cases d with
  | tup ds =>
    obtain ⟨a, vs, rfl, q1, q2⟩ := hd
    unfold gTupG at h
    simp only at h
    split at h
    · rename_i hl
      exact ⟨a, vs, rfl, by rw [hK]; exact s.sqT q1, by rw [← q2.length]; exact hl, m, F, ρ, S, ds, s, hρ, q2, h⟩
    · obtain ⟨_, q, _⟩ := h; cases q
  | _ => obtain ⟨_, q, _⟩ := h; cases q
theorem asg_red {gv : Gv} {D : Ends} {σ : St} {H : Hp} (h : tS G W (sAsg gv fe) D σ H) (hb : True) : tAsg (tE G W fe) (fun v σ H Q => ∃ m F ρ S d, Sim G m F S H ∧ relE G m F ρ σ ∧ relD G m F d v ∧ RunS G W (gv d ρ S) m F D) D σ H :=
  (tS.bind h).imp fun x H1 ⟨m, F, ρ, S, d, s, hρ, hx, h⟩ => ⟨m, F, ρ, S, d, s, hρ, hx, h⟩
/-- a target ends as it should -/
def Gv.plain (g : Gv) : Prop := ∀ d ρ S r, g d ρ S = some r → (∃ ρ' S', r = .nx ρ' S') ∨ ∃ e ρ' S', r = .ex e ρ' S'
theorem ss_asg {gv : Gv} (hp : gv.plain) (he : SE X G W e fe) (ht : SGv X G W tg gv) (hs : swapsWithSole [tg] e pos.line X.env = pure false) (hw : swappedStores [tg] e X.env = pure none)
    (h1 : (assignEach [tg] X.env).map (·.2) = [assign tg X.env]) : SS X G W (.Assign [tg] e pos) (sAsg gv fe) := by
  refine PSimp (ps_asg he ht hs hw h1) fun D σ H h => ?_
  refine (asg_red h trivial).imp fun x H1 ⟨m, F, ρ, S, d, s, hρ, hx, r, q, h⟩ => ⟨m, F, ρ, S, d, s, hρ, hx, r, q, ?_⟩
  rcases hp _ _ _ _ q with ⟨_, _, rfl⟩ | ⟨_, _, _, rfl⟩
  · exact h
  · exact h
theorem ss_par2 {i j : Nat} {x y : Str} {ga : Av} {px py pt : Pos} {kt k2 pt2} (g : GX X G W k) (hi : X.N[i]? = some x) (hj : X.N[j]? = some y) (hij : i ≠ j)
    (hx : X.env.scope.names.lookup x = some .local) (hy : X.env.scope.names.lookup y = some .local) (ha : SA X G W [a, b] ga)
    (hw : swappedStores [.Tuple [.Name x px, .Name y py] kt pt] (.Tuple [a, b] k2 pt2) X.env = pure (some [x, y])) :
    SS X G W (.Assign [.Tuple [.Name x px, .Name y py] kt pt] (.Tuple [a, b] k2 pt2) pos) (sPar [i, j] ga) := by
  refine PSimp (ps_par g.calm g.nd hi hj hij hx hy ha hw rfl) fun D σ H h => ?_
  refine (tS.bind h).imp fun vs H1 ⟨m, F, ρ, S, ds, s, hρ, hx, h⟩ => ?_
  obtain ⟨r, q, h⟩ := h
  unfold optS at q
  simp only at q
  split at q
  · rename_i ρ' hc
    split at hc
    · rename_i hl
      cases hc
      cases q
      have hv : vs.length = 2 := by rw [← hx.length]; exact hl
      obtain ⟨v, w, rfl⟩ : ∃ v w, vs = [v, w] := by
        match vs, hv with
        | [v, w], _ => exact ⟨v, w, rfl⟩
      exact ⟨v, w, rfl, h m F H1 _ .refl s (setAll_rel hρ hx)⟩
    · cases hc
  · cases q
theorem ss_par3 {i j l : Nat} {x y z : Str} {ga : Av} {px py pz pt : Pos} {kt k2 pt2} (g : GX X G W k) (hi : X.N[i]? = some x) (hj : X.N[j]? = some y) (hl : X.N[l]? = some z) (hij : i ≠ j) (hil : i ≠ l) (hjl : j ≠ l)
    (hx : X.env.scope.names.lookup x = some .local) (hy : X.env.scope.names.lookup y = some .local) (hz : X.env.scope.names.lookup z = some .local) (ha : SA X G W [a, b, c] ga)
    (hw : swappedStores [.Tuple [.Name x px, .Name y py, .Name z pz] kt pt] (.Tuple [a, b, c] k2 pt2) X.env = pure (some [x, y, z])) :
    SS X G W (.Assign [.Tuple [.Name x px, .Name y py, .Name z pz] kt pt] (.Tuple [a, b, c] k2 pt2) pos) (sPar [i, j, l] ga) := by
  refine PSimp (ps_par3 g.calm g.nd hi hj hl hij hil hjl hx hy hz ha hw rfl) fun D σ H h => ?_
  refine (tS.bind h).imp fun vs H1 ⟨m, F, ρ, S, ds, s, hρ, hx, h⟩ => ?_
  obtain ⟨r, q, h⟩ := h
  unfold optS at q
  simp only at q
  split at q
  · rename_i ρ' hc
    split at hc
    · rename_i hl
      cases hc
      cases q
      have hv : vs.length = 3 := by rw [← hx.length]; exact hl
      obtain ⟨u, v, w, rfl⟩ : ∃ u v w, vs = [u, v, w] := by
        match vs, hv with
        | [u, v, w], _ => exact ⟨u, v, w, rfl⟩
      exact ⟨u, v, w, rfl, h m F H1 _ .refl s (setAll_rel hρ hx)⟩
    · cases hc
  · cases q
theorem tS.turn {D : Ends} {σ : St} {H : Hp} (h : tS G W (turnS f g) D σ H) : tS G W f { D with nx := tS G W g D, ct := tS G W g D, bk := D.nx } σ H := by
  obtain ⟨m, F, ρ, S, s, e, r, q, h⟩ := h
  refine ⟨m, F, ρ, S, s, e, ?_⟩
  unfold turnS at q
  cases ex : f ρ S with
  | none => rw [ex] at q; cases q
  | some r1 =>
    rw [ex] at q
    cases r1 with
    | nx ρ' S' => exact ⟨_, rfl, fun m' F' H' σ' e1 s1 r1 => ⟨m', F', ρ', S', s1, r1, r, q, h.mono e1⟩⟩
    | ct ρ' S' => exact ⟨_, rfl, fun m' F' H' σ' e1 s1 r1 => ⟨m', F', ρ', S', s1, r1, r, q, h.mono e1⟩⟩
    | rt d S' => cases q; exact ⟨_, rfl, h⟩
    | bk ρ' S' => cases q; exact ⟨_, rfl, h⟩
    | ex x ρ' S' => cases q; exact ⟨_, rfl, h⟩
theorem RunS.turn {m : List Addr} {F : Hp} {ρ : En} {S : Store} {D : Ends} {N : St → Hp → Prop} (h : RunS G W (turnS f g ρ S) m F D) (hN : ∀ m' F' ρ' S' σ' H', Ext m F m' F' → Sim G m' F' S' H' → relE G m' F' ρ' σ' → RunS G W (g ρ' S') m' F' D → N σ' H') : RunS G W (f ρ S) m F { D with nx := N, ct := N, bk := D.nx } := by
  obtain ⟨r, q, h⟩ := h
  unfold turnS at q
  cases ex : f ρ S with
  | none => rw [ex] at q; cases q
  | some r1 =>
    rw [ex] at q
    cases r1 with
    | nx ρ' S' => exact ⟨_, rfl, fun m' F' H' σ' e1 s1 r1 => hN m' F' ρ' S' σ' H' e1 s1 r1 ⟨r, q, h.mono e1⟩⟩
    | ct ρ' S' => exact ⟨_, rfl, fun m' F' H' σ' e1 s1 r1 => hN m' F' ρ' S' σ' H' e1 s1 r1 ⟨r, q, h.mono e1⟩⟩
    | rt d S' => cases q; exact ⟨_, rfl, h⟩
    | bk ρ' S' => cases q; exact ⟨_, rfl, h⟩
    | ex x ρ' S' => cases q; exact ⟨_, rfl, h⟩
theorem ss_while {body : List Stmt} (hp : PassesOwn (model X.prog X.w) X.A X.env X.xe) (hc : ST X G W c ft) (hb : SSs X G W body f) : SS X G W (.While c body [] pos) (sWhile ft f) := by
  refine PSimp (ps_while hp hc hb) fun D σ H ⟨m, F, ρ, S, s, e, r, q, h⟩ => ?_
  obtain ⟨n, hn⟩ := sWhile_some q
  refine ⟨fun n σ H => tS G W (whileN ft f n) D σ H, ⟨n, m, F, ρ, S, s, e, r, hn, h⟩, ?_⟩
  intro n σ H h
  cases n with
  | zero => obtain ⟨_, _, _, _, _, _, _, q, _⟩ := h; cases q
  | succ n =>
    refine (tS.bind (rel := relB) (x := ft) (show tS G W (sBind ft fun c => if c then turnS f (whileN ft f n) else sNx) D σ H from h)).imp fun b H1 ⟨m, F, ρ, S, d, s, hρ, hx, h⟩ => ?_
    obtain rfl : d = b := hx
    cases d with
    | true => exact ⟨tS G W (whileN ft f n) D, fun σ' H' h' => ⟨n, Nat.lt_succ_self n, h'⟩, tS.turn ⟨m, F, ρ, S, s, hρ, h⟩⟩
    | false => exact h.nx s hρ
theorem ss_for {body : List Stmt} {it : Iv} {t : Tg} (gx : GX X G W k) (hp : PassesOwn (model X.prog X.w) X.A X.env X.xe) (hi : SI X G W tg iter it) (hg : SG X tg t) (hb : SSs X G W body f) (hs : ∀ x, foldedSetIterable iter X.env x = pure x) : SS X G W (.For tg iter body [] pos) (sFor it t f) := by
  refine PSimp (ps_for hp gx.calm hi hg hb hs) fun D σ H h => ?_
  refine (tS.bind h).imp fun J H1 ⟨m, F, ρ, S, itm, s, hρ, hI, h⟩ => ?_
  refine ⟨fun i n σ H' => n = itm.items.length - i ∧ i ≤ itm.items.length ∧ ∃ m' F' ρ' S', Ext m F m' F' ∧ Sim G m' F' S' H' ∧ relE G m' F' ρ' σ ∧ RunS G W (forGo itm.src t f (itm.items.drop i) ρ' S') m' F' D, ⟨itm.items.length, by simp, Nat.zero_le _, m, F, ρ, S, .refl, s, hρ, by simpa using h⟩, ?_⟩
  rintro i n σ H' ⟨rfl, hi2, m', F', ρ', S', e1, s1, hρ', hgo⟩
  by_cases hlt : i < itm.items.length
  · have hdrop : itm.items.drop i = itm.items[i] :: itm.items.drop (i + 1) := (List.getElem_cons_drop hlt).symm
    rw [hdrop] at hgo
    unfold forGo at hgo
    by_cases hok : itm.src.ok S'
    case neg => rw [if_neg hok] at hgo; obtain ⟨_, q, _⟩ := hgo; cases q
    rw [if_pos hok] at hgo
    obtain ⟨_, hy⟩ := hI m' F' S' H' e1 s1 hok
    obtain ⟨hgo1, hyl⟩ := hy i _ (List.getElem?_eq_getElem hlt)
    refine .inr ⟨hgo1, fun σ2 H2 => i + 1 ≤ itm.items.length ∧ ∃ m' F' ρ' S', Ext m F m' F' ∧ Sim G m' F' S' H2 ∧ relE G m' F' ρ' σ2 ∧ RunS G W (forGo itm.src t f (itm.items.drop (i + 1)) ρ' S') m' F' D, fun σ2 H2 hN => ⟨itm.items.length - (i + 1), by omega, rfl, hN⟩, fun x H2 hyx => ?_⟩
    obtain ⟨F2, e2, s2, hx⟩ := hyl x H2 hyx
    rw [gx.hK]
    cases ea : t.asg itm.items[i] ρ' with
    | none =>
      obtain ⟨r, q, _⟩ := hgo
      unfold sSeq optS at q
      simp only [ea] at q
      cases q
    | some ρ1 =>
      refine Tg.g_ok s2 (hρ'.mono e2) hx ea fun σ' hσ _ => ?_
      have h1 : RunS G W (turnS f (forGo itm.src t f (itm.items.drop (i + 1))) ρ1 S') m' F2 D := by
        unfold sSeq optS at hgo
        simp only [ea] at hgo
        exact hgo.mono e2
      exact ⟨m', F2, ρ1, S', s2, hσ, h1.turn fun m3 F3 ρ3 S3 σ3 H3 e3 s3 hρ3 h3 => ⟨hlt, m3, F3, ρ3, S3, (e1.trans e2).trans e3, s3, hρ3, h3⟩⟩
  · have e : i = itm.items.length := by omega
    subst e
    rw [List.drop_length] at hgo
    unfold forGo at hgo
    by_cases hok : itm.src.ok S'
    case neg => rw [if_neg hok] at hgo; obtain ⟨_, q, _⟩ := hgo; cases q
    rw [if_pos hok] at hgo
    obtain ⟨hst, _⟩ := hI m' F' S' H' e1 s1 hok
    exact .inl ⟨hst _ (Nat.le_refl _), hgo.nx s1 hρ'⟩
end
end MP

/-! MPM: stores into objects, lists, dicts; calls of methods. -/
namespace MP
open PySem PySem.Spec PyProof.Rows L2

/-- o.f = e -/
def putFD (f : Str) (d : D) : List (Str × D) → List (Str × D)
  | [] => [(f, d)]
  | (g, x) :: r => if g = f then (g, d) :: r else (g, x) :: putFD f d r
def oPutF (Γ : Pg) (f : Str) (o d : D) : M Unit := fun S => match o with
  | .ref r => (match S[r]? with
    | some (.obj c fs) => if f ∈ Γ.fields c ∧ fs.length < 1000 then some (.ok () (S.set r (.obj c (putFD f d fs)))) else none
    | _ => none)
  | _ => none
def gFldS (Γ : Pg) (f : Str) (o : Ev) : Gv := fun d => sBind o fun x => sBind (fun _ => oPutF Γ f x d) fun _ => sNx
/-- o[i] = e -/
def oPut (o i d : D) : M Unit := fun S => match o with
  | .ref r => (match S[r]? with
    | some (.lst xs) => (match i with
      | .int z => (match ixN xs.length z with
        | some n => some (.ok () (S.set r (.lst (xs.set n d))))
        | none => none)
      | _ => none)
    | some (.dct kvs) => (match keyD i with
      | some k => if kvs.length < sizeLine then some (.ok () (S.set r (.dct (putD kvs k d)))) else none
      | none => none)
    | _ => none)
  | _ => none
def gSubS (o i : Ev) : Gv := fun d => sBind o fun x => sBind i fun y => sBind (fun _ => oPut x y d) fun _ => sNx
theorem gOne_plain {i : Nat} : (gOne i).plain := fun d ρ S r h => by cases h; exact .inl ⟨_, _, rfl⟩
theorem plain_bind {α : Type} {x : En → M α} {k : α → Sv} (h : ∀ a ρ S r, k a ρ S = some r → (∃ ρ' S', r = .nx ρ' S') ∨ ∃ e ρ' S', r = .ex e ρ' S') : ∀ ρ S r, sBind x k ρ S = some r → (∃ ρ' S', r = .nx ρ' S') ∨ ∃ e ρ' S', r = .ex e ρ' S' := fun ρ S r q => by
  unfold sBind at q
  split at q
  · exact h _ _ _ _ q
  · cases q; exact .inr ⟨_, _, _, rfl⟩
  · cases q
theorem plain_nx : ∀ ρ S r, sNx ρ S = some r → (∃ ρ' S', r = .nx ρ' S') ∨ ∃ e ρ' S', r = .ex e ρ' S' := fun ρ S r h => by cases h; exact .inl ⟨_, _, rfl⟩
theorem gFldS_plain {Γ : Pg} {f : Str} {o : Ev} : (gFldS Γ f o).plain := fun d => plain_bind fun _ => plain_bind fun _ => plain_nx
theorem gSubS_plain {o i : Ev} : (gSubS o i).plain := fun d => plain_bind fun _ => plain_bind fun _ => plain_bind fun _ => plain_nx
theorem gAll_plain : ∀ {gs : List Gv}, (∀ g ∈ gs, g.plain) → ∀ ds ρ S r, gAll gs ds ρ S = some r → (∃ ρ' S', r = .nx ρ' S') ∨ ∃ e ρ' S', r = .ex e ρ' S'
  | [], _, [], ρ, S, r, h => plain_nx ρ S r h
  | [], _, _ :: _, _, _, _, h => by cases h
  | _ :: _, _, [], _, _, _, h => by cases h
  | g :: gs, hp, d :: ds, ρ, S, r, h => by
    unfold gAll sSeq at h
    split at h
    · exact gAll_plain (fun g hg => hp g (List.mem_cons_of_mem _ hg)) ds _ _ r h
    · exact hp g List.mem_cons_self d ρ S r h
theorem gTupG_plain {gs : List Gv} (hp : ∀ g ∈ gs, g.plain) : (gTupG gs).plain := fun d ρ S r h => by
  unfold gTupG at h
  split at h
  · split at h
    · exact gAll_plain hp _ _ _ _ h
    · cases h
  · cases h

section
variable {Γ : Pg} {X : Cx} {G : GW} {W : WX} {C : Calls} {a b c e o i : Expr} {pos apos : Pos} {fa fb fo fi : Ev} {k : Nat}
theorem putFD_rel {m : List Addr} {F : Hp} {f : Str} {d : D} {v : V} (hd : relD G m F d v) : ∀ {fs : List (Str × D)} {ws : List (Str × V)}, fs.map (·.1) = ws.map (·.1) → relDs G m F (fs.map (·.2)) (ws.map (·.2)) →
    (putFD f d fs).map (·.1) = (L2.putF f v ws).map (·.1) ∧ relDs G m F ((putFD f d fs).map (·.2)) ((L2.putF f v ws).map (·.2))
  | [], [], _, _ => ⟨rfl, relDs.cons hd relDs.nil⟩
  | [], _ :: _, h, _ => by simp at h
  | _ :: _, [], h, _ => by simp at h
  | (g, x) :: fs, (g', w) :: ws, h, r => by
    obtain ⟨w', ws', e, r1, r2⟩ := r
    simp only [List.map_cons, List.cons.injEq] at h e
    obtain ⟨h1, h2⟩ := h
    obtain ⟨e1, e2⟩ := e
    subst h1 e1 e2
    unfold putFD L2.putF
    by_cases hg : g = f
    · rw [if_pos hg, if_pos hg]
      exact ⟨by simp [h2], relDs.cons hd r2⟩
    · rw [if_neg hg, if_neg hg]
      obtain ⟨i1, i2⟩ := putFD_rel (f := f) hd h2 r2
      exact ⟨by simp [i1], relDs.cons r1 i2⟩
theorem putD_rel {m : List Addr} {F : Hp} {kk : Key} {d : D} {v : V} (hd : relD G m F d v) {kvs : List (Key × D)} {ws : List (Key × V)} (h : kvs.map (·.1) = ws.map (·.1)) (r : relDs G m F (kvs.map (·.2)) (ws.map (·.2))) :
    (putD kvs kk d).map (·.1) = (L2.putK ws kk v).map (·.1) ∧ relDs G m F ((putD kvs kk d).map (·.2)) ((L2.putK ws kk v).map (·.2)) := by
  have hany : kvs.any (fun kv => decide (kv.1 = kk)) = ws.any (fun kv => decide (kv.1 = kk)) := by
    have e1 : kvs.any (fun kv => decide (kv.1 = kk)) = (kvs.map (·.1)).any (fun x => decide (x = kk)) := by rw [List.any_map]; rfl
    have e2 : ws.any (fun kv => decide (kv.1 = kk)) = (ws.map (·.1)).any (fun x => decide (x = kk)) := by rw [List.any_map]; rfl
    rw [e1, e2, h]
  unfold putD L2.putK
  rw [hany]
  split
  · rename_i hz
    clear hz hany
    induction kvs generalizing ws with
    | nil =>
      cases ws with
      | nil => exact ⟨rfl, relDs.nil⟩
      | cons _ _ => simp at h
    | cons p kvs ih =>
      cases ws with
      | nil => simp at h
      | cons q ws =>
        obtain ⟨w', ws', e, r1, r2⟩ := r
        simp only [List.map_cons, List.cons.injEq] at h e
        obtain ⟨h1, h2⟩ := h
        obtain ⟨e1, e2⟩ := e
        subst e2
        obtain ⟨i1, i2⟩ := ih h2 r2
        simp only [List.map_cons]
        rw [h1]
        by_cases hk : q.1 = kk
        · rw [if_pos hk, if_pos hk]
          exact ⟨by rw [i1], relDs.cons hd i2⟩
        · rw [if_neg hk, if_neg hk]
          exact ⟨by rw [i1, h1], relDs.cons (by rw [e1]; exact r1) i2⟩
  · rw [List.map_append, List.map_append, List.map_append, List.map_append, h]
    exact ⟨rfl, r.append (relDs.cons hd relDs.nil)⟩
theorem sgv_fld (g : GY Γ X G W C k) {f : Str} (ho : SE X G W o fo) : SGv X G W (.Attribute o f apos) (gFldS Γ f fo) := by
  refine ⟨fun pins s σ H v u Q I r hw => ?_⟩
  rw [assign_Attribute]
  obtain ⟨m, F, ρ, S, d, s', hρ, hd, h⟩ := hw
  have h1 := RunS.bind (rel := relD G) (x := fo) s' hρ h
  refine wpAny_bind (wpAny_holding (thn (ho.run pins s σ H _ I ⟨m, F, ρ, S, s', hρ, h1⟩) fun ov s1 ⟨x, H1, I1, rx, m1, F1, S1, dx, e1, s1', hρ1, hx, r1⟩ => ?_))
  refine wpAny_bind (wpAny_standAt (wpAny_bind (wpAny_holding ?_)))
  obtain ⟨rr, q, hq⟩ := r1
  unfold sBind at q
  cases dx with
  | ref ri =>
    obtain ⟨ad, rfl, ha⟩ := hx
    unfold oPutF at q
    simp only at q
    cases ec : S1[ri]? with
    | none => rw [ec] at q; cases q
    | some cell =>
      rw [ec] at q
      cases cell with
      | obj c fs =>
        simp only at q
        by_cases hc : f ∈ Γ.fields c ∧ fs.length < 1000
        · rw [if_pos hc] at q
          cases q
          obtain ⟨dx, ws, q1, q2, q3⟩ := s1'.cel _ _ _ ha ec
          obtain ⟨p1, p2⟩ := putFD_rel (f := f) (hd.mono e1) q2 q3
          have hcd : ∃ cd, Γ.cls[c]? = some cd := by
            have := hc.1
            unfold Pg.fields at this
            split at this
            · rename_i cd hcd; exact ⟨cd, hcd⟩
            · cases this
          obtain ⟨cd, hcd⟩ := hcd
          have cl := g.wf.cls c cd hcd
          have na := g.wf.noat c f hc.1
          rw [← g.hK] at cl na
          obtain rfl : ov = Value.ref ad := rx
          have hl : ws.length < 1000 := by
            have := congrArg List.length q2
            simp only [List.length_map] at this
            rw [← this]; exact hc.2
          refine setattr_ok I1 q1 cl na hl r fun s2 I2 => wpAny_release ⟨σ, _, I2, ?_⟩
          exact hq m1 F1 _ σ .refl (s1'.write ha (c := .obj c (putFD f d fs)) ⟨dx, _, rfl, p1, p2⟩) hρ1
        · rw [if_neg hc] at q; cases q
      | lst _ => cases q
      | dct _ => cases q
  | _ => cases q
theorem sgv_sub (g : GX X G W k) (ho : SE X G W o fo) (hi : SE X G W i fi) (hs : ∀ v, assign (.Subscript o i pos) X.env v = (do
      let ov ← holding [v] (eval o X.env)
      let iv ← holding [v, ov] (eval i X.env)
      standAt pos
      holding [v, ov, iv] (setItem ov iv v)
      release [v, ov, iv] [])) : SGv X G W (.Subscript o i pos) (gSubS fo fi) := by
  refine ⟨fun pins s σ H v u Q I r hw => ?_⟩
  rw [hs]
  obtain ⟨m, F, ρ, S, d, s', hρ, hd, h⟩ := hw
  have h1 := RunS.bind (rel := relD G) (x := fo) s' hρ h
  refine wpAny_bind (wpAny_holding (thn (ho.run pins s σ H _ I ⟨m, F, ρ, S, s', hρ, h1⟩) fun ov s1 ⟨x, H1, I1, rx, m1, F1, S1, dx, e1, s1', hρ1, hx, r1⟩ => ?_))
  have h2 := RunS.bind (rel := relD G) (x := fi) s1' hρ1 r1
  refine wpAny_bind (wpAny_holding (thn (hi.run pins s1 σ H1 _ I1 ⟨m1, F1, ρ, S1, s1', hρ1, h2⟩) fun iv s2 ⟨y, H2, I2, ry, m2, F2, S2, dy, e2, s2', hρ2, hy, r2⟩ => ?_))
  refine wpAny_bind (wpAny_standAt (wpAny_bind (wpAny_holding ?_)))
  have hx2 := hx.mono e2
  have hd2 := (hd.mono e1).mono e2
  obtain ⟨rr, q, hq⟩ := r2
  unfold sBind at q
  cases dx with
  | ref ri =>
    obtain ⟨ad, rfl, ha⟩ := hx2
    unfold oPut at q
    simp only at q
    cases ec : S2[ri]? with
    | none => rw [ec] at q; cases q
    | some cell =>
      rw [ec] at q
      cases cell with
      | obj c fs => cases q
      | lst xs =>
        cases dy with
        | int z =>
          simp only at q
          cases en : ixN xs.length z with
          | none => rw [en] at q; cases q
          | some n =>
            rw [en] at q
            cases q
            obtain ⟨vs, q1, q2⟩ := s2'.cel _ _ _ ha ec
            obtain rfl : y = V.int z := hy
            refine thn (set_list pins s2 σ H2 (.ref ad) (.int z) v ov iv u (fun H3 => Q σ H3) I2 rx ry r ⟨ad, vs, z, n, rfl, rfl, q1, by rw [← q2.length]; exact en, ?_⟩) fun _ s3 ⟨H3, I3, q3⟩ => wpAny_release ⟨σ, H3, I3, q3⟩
            exact hq m2 F2 _ σ .refl (s2'.write ha (c := .lst (xs.set n d)) ⟨_, rfl, q2.set hd2 n⟩) hρ2
        | _ => cases q
      | dct kvs =>
        simp only at q
        cases ek : keyD dy with
        | none => rw [ek] at q; cases q
        | some kk =>
          rw [ek] at q
          simp only at q
          by_cases hl : kvs.length < sizeLine
          · rw [if_pos hl] at q
            cases q
            obtain ⟨ws, q1, q2, q3⟩ := s2'.cel _ _ _ ha ec
            obtain rfl := keyD_kV ek hy
            obtain ⟨p1, p2⟩ := putD_rel (kk := kk) hd2 q2 q3
            have hlw : ws.length < sizeLine := by
              have := congrArg List.length q2
              simp only [List.length_map] at this
              rw [← this]; exact hl
            refine thn (set_dict (by have := units200 g; omega) pins s2 σ H2 (.ref ad) (kV kk) v ov iv u (fun H3 => Q σ H3) I2 rx ry r ⟨ad, _, rfl, .k q1 hlw, ?_⟩) fun _ s3 ⟨H3, I3, q3⟩ => wpAny_release ⟨σ, H3, I3, q3⟩
            exact hq m2 F2 _ σ .refl (s2'.write ha (c := .dct (putD kvs kk d)) ⟨_, rfl, p1, p2⟩) hρ2
          · rw [if_neg hl] at q; cases q
  | _ => cases q
end
end MP

/-! MPN: calls of methods. -/
namespace MP
open PySem PySem.Spec PyProof.Rows L2

/-- the receiver's kind -/
def isKind (T : String) (x : D) (S : Store) : Bool := match x with
  | .str _ => T == "str"
  | .ref r => (match S[r]? with
    | some (.lst _) => T == "list"
    | some (.dct _) => T == "dict"
    | _ => false)
  | .flst _ => T == "list"
  | _ => false
def eM (T : String) (mm : D → List D → M D) (o : Ev) (a : Av) : Ev := fun ρ => .bind (o ρ) fun x S => if isKind T x S = true then M.bind (a ρ) (fun ds => mm x ds) S else none
def mAppend (x : D) (ds : List D) : M D := fun S => match x, ds with
  | .ref r, [y] => (match S[r]? with
    | some (.lst xs) => if xs.length < sizeLine then some (.ok .non (S.set r (.lst (xs ++ [y])))) else none
    | _ => none)
  | _, _ => none
def mPop (x : D) (ds : List D) : M D := fun S => match x, ds with
  | .ref r, [] => (match S[r]? with
    | some (.lst xs) => (match xs[xs.length - 1]? with
      | some y => some (.ok y (S.set r (.lst xs.dropLast)))
      | none => none)
    | _ => none)
  | _, _ => none
def mPopAt (x : D) (ds : List D) : M D := fun S => match x, ds with
  | .ref r, [.int i] => (match S[r]? with
    | some (.lst xs) => if -(2 ^ 63) ≤ i ∧ i < 2 ^ 63 then (match seqIndex? i xs.length with
      | some k => (match xs[k]? with
        | some y => some (.ok y (S.set r (.lst (xs.eraseIdx k))))
        | none => none)
      | none => none) else none
    | _ => none)
  | _, _ => none
def mExtend (x : D) (ds : List D) : M D := fun S => match x, ds with
  | .ref r, [.ref q] => (match S[r]?, S[q]? with
    | some (.lst xs), some (.lst zs) => if xs.length + zs.length ≤ sizeLine then some (.ok .non (S.set r (.lst (xs ++ zs)))) else none
    | _, _ => none)
  | _, _ => none
/-- the class of an instance, where no attribute hides the method -/
def clsM (mt : Str) (x : D) : M Nat := fun S => match x with
  | .obj c _ => some (.ok c S)
  | .ref r => (match S[r]? with
    | some (.obj c fs) => (match fs.lookup mt with
      | none => some (.ok c S)
      | some _ => none)
    | _ => none)
  | _ => none
def Pg.meth (Γ : Pg) (c : Nat) (mt : Str) : Option (Nat × Nat) := match Γ.cls[c]? with
  | some cd => (match cd.meths.lookup mt with
    | some i => (match Γ.fns[i]? with
      | some f => some (i, f.ps.length)
      | none => none)
    | none => none)
  | none => none
def eMeth (Γ : Pg) (C : Calls) (mt : Str) (o : Ev) (a : Av) : Ev := fun ρ => .bind (o ρ) fun x => .bind (clsM mt x) fun c => match Γ.meth c mt with
  | some (i, n) => .bind (a ρ) fun ds => .guard (ds.length + 1 = n) (C.fn i (x :: ds))
  | none => .stuck

section
variable {Γ : Pg} {X : Cx} {G : GW} {W : WX} {C : Calls} {a b c e o i : Expr} {es : List Expr} {pos apos cpos : Pos} {fa fb fo fi : Ev} {ga : Av} {k : Nat}
theorem isKind_ty {T : String} {x : D} {S : Store} {m : List Addr} {F : Hp} {H : Hp} {v : V} (h : isKind T x S = true) (s : Sim G m F S H) (r : relD G m F x v) : tyV G.K T v H := by
  cases x with
  | str z => obtain rfl : v = .str z := r; exact beq_iff_eq.mp h
  | ref q =>
    obtain ⟨ad, rfl, ha⟩ := r
    unfold isKind at h
    simp only at h
    cases ec : S[q]? with
    | none => rw [ec] at h; cases h
    | some cell =>
      rw [ec] at h
      cases cell with
      | lst xs => obtain ⟨vs, q1, _⟩ := s.cel _ _ _ ha ec; exact .inl ⟨beq_iff_eq.mp h, vs, .of q1⟩
      | dct kvs => obtain ⟨vs, q1, _⟩ := s.cel _ _ _ ha ec; exact .inr (.inr (.inl ⟨beq_iff_eq.mp h, .inl ⟨vs, q1⟩⟩))
      | obj _ _ => cases h
  | flst xs =>
    obtain ⟨ad, vs, rfl, q1, _⟩ := r
    exact .inl ⟨beq_iff_eq.mp h, vs, s.sqL q1⟩
  | _ => cases h
/-- a method of a built-in type is as the interpreter's -/
def MtI (X : Cx) (G : GW) (id : String) (mm : D → List D → M D) : Prop := ∃ r, MtR X id r ∧
  ∀ {W : WX} {σ : St} {Q : VK} {m : List Addr} {F : Hp} {S : Store} {H : Hp} {d : D} {ds : List D} {x : V} {xs : List V}, Sim G m F S H → relD G m F d x → relDs G m F ds xs → Run G W σ (relD G) (mm d ds) m F S Q → r x xs H Q
theorem run_if {α β : Type} {rel : List Addr → Hp → α → β → Prop} {σ : St} {Q : β → Hp → Prop} {m : List Addr} {F : Hp} {S : Store} {p : Prop} [Decidable p] {x : M α} (h : Run G W σ rel (fun S => if p then x S else none) m F S Q) : p ∧ Run G W σ rel x m F S Q := by
  obtain ⟨r, q, h⟩ := h
  split at q
  · exact ⟨by assumption, r, q, h⟩
  · cases q
theorem se_bm {T id : String} {name : Str} {mm : D → List D → M D} (hK : X.K = G.K) (mi : MtI X G id mm) (pa : PlainAttrs T) (slot : Slot T name id) (hty : typeOf (.builtin id) = pure (.type "method_descriptor")) (ho : SE X G W o fo) (ha : SA X G W (e :: es) ga)
    (hb : plainBase o = true)
    (hfew : ((backTo cpos (starEach (e :: es) X.env)).all (fun x => !x.1) && (backToKw cpos (keywordEach [] X.env)).all (fun x => x.1.isSome)
      && decide ((e :: es).length + ([] : List Keyword).length + (if ([] : List Keyword).isEmpty then 0 else 1) < 30)) = true)
    (hline : (apos.endLine == cpos.line) = true) (hs : starEach (e :: es) X.env = (false, eval e X.env) :: starEach es X.env) (hpl : (backTo cpos (starEach es X.env)).any (·.1) = false) :
    SE X G W (.Call (.Attribute o name apos) (e :: es) [] cpos) (eM T mm fo ga) := by
  obtain ⟨r, hm, hr⟩ := mi
  refine PEimp (pe_bm pa slot hty hm ho ha (plainBase_eq hb _ _ _) hfew hline hs hpl) fun σ H Q h => ?_
  refine (tM.bind h).imp fun x H1 ⟨m, F, ρ, S, d, s, hρ, hx, rr, q, hq⟩ => ?_
  simp only at q
  by_cases hk : isKind T d S = true
  · rw [if_pos hk] at q
    refine ⟨by rw [hK]; exact isKind_ty hk s hx, ?_⟩
    refine ⟨m, F, ρ, S, s, hρ, (Run.bind ⟨rr, q, hq⟩).imp fun xs H2 ⟨m2, F2, S2, ds, e2, s2, hxs, r2⟩ => ?_⟩
    exact hr s2 (hx.mono e2) hxs r2
  · rw [if_neg hk] at q; cases q
theorem se_bm0 {T id : String} {name : Str} {mm : D → List D → M D} (hK : X.K = G.K) (mi : MtI X G id mm) (pa : PlainAttrs T) (slot : Slot T name id) (hty : typeOf (.builtin id) = pure (.type "method_descriptor")) (ho : SE X G W o fo)
    (hb : plainBase o = true) (hline : (apos.endLine == cpos.line) = true) :
    SE X G W (.Call (.Attribute o name apos) [] [] cpos) (eM T mm fo aNil) := by
  obtain ⟨r, hm, hr⟩ := mi
  refine PEimp (pe_bm0 pa slot hty hm ho (plainBase_eq hb _ _ _) hline) fun σ H Q h => ?_
  refine (tM.bind h).imp fun x H1 ⟨m, F, ρ, S, d, s, hρ, hx, rr, q, hq⟩ => ?_
  simp only at q
  by_cases hk : isKind T d S = true
  · rw [if_pos hk] at q
    exact ⟨by rw [hK]; exact isKind_ty hk s hx, hr s hx relDs.nil (W := W) (σ := σ) ⟨rr, q, hq⟩⟩
  · rw [if_neg hk] at q; cases q
theorem mi_append : MtI X G "list.append" mAppend := ⟨rAppend, mt_append, fun {W σ Q m F S H d ds x xs} s hd hds ⟨rr, q, hq⟩ => by
  unfold mAppend at q
  cases d with
  | ref ri =>
    match ds with
    | [y] =>
      obtain ⟨v, vs, rfl, q1, q2⟩ := hds
      obtain rfl : vs = [] := q2
      obtain ⟨ad, rfl, ha⟩ := hd
      simp only at q
      cases ec : S[ri]? with
      | none => rw [ec] at q; cases q
      | some cell =>
        rw [ec] at q
        cases cell with
        | lst xs =>
          simp only at q
          split at q
          · rename_i hl
            cases q
            obtain ⟨ws, w1, w2⟩ := s.cel _ _ _ ha ec
            exact ⟨ad, ws, v, rfl, rfl, w1, by rw [← w2.length]; exact hl, hq m F _ _ .refl (s.write ha (c := .lst (xs ++ [y])) ⟨_, rfl, w2.append (relDs.cons q1 relDs.nil)⟩) rfl⟩
          · cases q
        | _ => cases q
    | [] => cases q
    | _ :: _ :: _ => cases q
  | _ => cases q⟩
theorem relDs.dropLast {m : List Addr} {F : Hp} {ds : List D} {vs : List V} (h : relDs G m F ds vs) : relDs G m F ds.dropLast vs.dropLast := by
  rw [List.dropLast_eq_take, List.dropLast_eq_take, h.length]
  exact h.take _
theorem relDs.eraseIdx {m : List Addr} {F : Hp} : ∀ {ds : List D} {vs : List V} (n : Nat), relDs G m F ds vs → relDs G m F (ds.eraseIdx n) (vs.eraseIdx n)
  | [], _, _, h => by rw [show _ = [] from h]; rfl
  | _ :: _, _, 0, ⟨_, _, rfl, _, h3⟩ => h3
  | _ :: _, _, n + 1, ⟨w, r, rfl, h2, h3⟩ => relDs.cons h2 (relDs.eraseIdx n h3)
theorem mi_pop : MtI X G "list.pop" mPop := ⟨rPop, mt_pop, fun {W σ Q m F S H d ds x xs} s hd hds ⟨rr, q, hq⟩ => by
  unfold mPop at q
  cases d with
  | ref ri =>
    match ds with
    | [] =>
      obtain rfl : xs = [] := hds
      obtain ⟨ad, rfl, ha⟩ := hd
      simp only at q
      cases ec : S[ri]? with
      | none => rw [ec] at q; cases q
      | some cell =>
        rw [ec] at q
        cases cell with
        | lst xs =>
          simp only at q
          split at q
          · rename_i y hy
            cases q
            obtain ⟨ws, w1, w2⟩ := s.cel _ _ _ ha ec
            obtain ⟨v, g1, g2⟩ := w2.get hy
            exact ⟨ad, ws, v, rfl, rfl, w1, by rw [← w2.length]; exact g1, hq m F _ _ .refl (s.write ha (c := .lst xs.dropLast) ⟨_, rfl, w2.dropLast⟩) g2⟩
          · cases q
        | _ => cases q
    | _ :: _ => cases q
  | _ => cases q⟩
theorem mi_popAt : MtI X G "list.pop" mPopAt := ⟨rPopAt, mt_popAt, fun {W σ Q m F S H d ds x xs} s hd hds ⟨rr, q, hq⟩ => by
  unfold mPopAt at q
  cases d with
  | ref ri =>
    match ds with
    | [.int i] =>
      obtain ⟨v, vs, rfl, q1, q2⟩ := hds
      obtain rfl : vs = [] := q2
      obtain rfl : v = .int i := q1
      obtain ⟨ad, rfl, ha⟩ := hd
      simp only at q
      cases ec : S[ri]? with
      | none => rw [ec] at q; cases q
      | some cell =>
        rw [ec] at q
        cases cell with
        | lst xs =>
          simp only at q
          split at q
          · rename_i hl
            split at q
            · rename_i kk hk
              split at q
              · rename_i y hy
                cases q
                obtain ⟨ws, w1, w2⟩ := s.cel _ _ _ ha ec
                obtain ⟨v, g1, g2⟩ := w2.get hy
                exact ⟨ad, ws, i, kk, v, rfl, rfl, w1, hl.1, hl.2, by rw [← w2.length]; exact hk, g1, hq m F _ _ .refl (s.write ha (c := .lst (xs.eraseIdx kk)) ⟨_, rfl, w2.eraseIdx kk⟩) g2⟩
              · cases q
            · cases q
          · cases q
        | _ => cases q
    | [] => cases q
    | _ :: _ :: _ => simp at q
    | [.non] => cases q
    | [.bl _] => cases q
    | [.str _] => cases q
    | [.tup _] => cases q
    | [.flst _] => cases q
    | [.obj _ _] => cases q
    | [.ref _] => cases q
    | [.fn _] => cases q
    | [.cls _] => cases q
    | [.ty _] => cases q
  | _ => cases q⟩
theorem mi_extend : MtI X G "list.extend" mExtend := ⟨rExtend, mt_extend, fun {W σ Q m F S H d ds x xs} s hd hds ⟨rr, q, hq⟩ => by
  unfold mExtend at q
  cases d with
  | ref ri =>
    match ds with
    | [.ref qi] =>
      obtain ⟨v, vs, rfl, q1, q2⟩ := hds
      obtain rfl : vs = [] := q2
      obtain ⟨bd, rfl, hb⟩ := q1
      obtain ⟨ad, rfl, ha⟩ := hd
      simp only at q
      split at q
      · rename_i xs zs ec ec2
        split at q
        · rename_i hl
          cases q
          obtain ⟨ws, w1, w2⟩ := s.cel _ _ _ ha ec
          obtain ⟨us, u1, u2⟩ := s.cel _ _ _ hb ec2
          exact ⟨ad, bd, ws, us, rfl, rfl, w1, u1, by rw [← w2.length, ← u2.length]; exact hl, hq m F _ _ .refl (s.write ha (c := .lst (xs ++ zs)) ⟨_, rfl, w2.append u2⟩) rfl⟩
        · cases q
      · cases q
    | [] => cases q
    | _ :: _ :: _ => simp at q
    | [.non] => cases q
    | [.bl _] => cases q
    | [.str _] => cases q
    | [.tup _] => cases q
    | [.flst _] => cases q
    | [.obj _ _] => cases q
    | [.int _] => cases q
    | [.fn _] => cases q
    | [.cls _] => cases q
    | [.ty _] => cases q
  | _ => cases q⟩

/-! ### own methods -/
theorem cls_meth (g : GY Γ X G W C k) {σ : St} {mt : Str} {x : D} {v : V} {m : List Addr} {F : Hp} {S : Store} {H : Hp} {f : Nat → M D} {Q : VK} (h : Run G W σ (relD G) (.bind (clsM mt x) fun c => match Γ.meth c mt with
      | some (i, n) => f c
      | none => .stuck) m F S Q) (s : Sim G m F S H) (hx : relD G m F x v) : ∃ c cd i fd ad dx fs, Γ.cls[c]? = some cd ∧ cd.meths.lookup mt = some i ∧ Γ.fns[i]? = some fd ∧ Γ.meth c mt = some (i, fd.ps.length) ∧ v = .ref ad ∧ H ad = some (.ins (G.clA c) dx fs) ∧ fs.lookup mt = none ∧ Run G W σ (relD G) (f c) m F S Q := by
  obtain ⟨r, q, hq⟩ := h
  have hm : ∀ c, (∃ z S', (match Γ.meth c mt with
      | some (i, n) => f c
      | none => M.stuck) S' = some z) → ∃ cd i fd, Γ.cls[c]? = some cd ∧ cd.meths.lookup mt = some i ∧ Γ.fns[i]? = some fd ∧ Γ.meth c mt = some (i, fd.ps.length) := fun c ⟨z, S', e⟩ => by
    cases em : Γ.meth c mt with
    | none => rw [em] at e; cases e
    | some p =>
      have em' := em
      unfold Pg.meth at em
      split at em
      · rename_i cd hcd
        split at em
        · rename_i i hi
          split at em
          · rename_i fd hfd
            cases em
            exact ⟨cd, i, fd, hcd, hi, hfd, rfl⟩
          · cases em
        · cases em
      · cases em
  cases x with
  | obj c xs =>
    have e : M.bind (clsM mt (.obj c xs)) (fun c => match Γ.meth c mt with
      | some (i, n) => f c
      | none => M.stuck) S = (match Γ.meth c mt with
      | some (i, n) => f c
      | none => M.stuck) S := rfl
    rw [e] at q
    obtain ⟨cd, i, fd, h1, h2, h3, h4⟩ := hm c ⟨_, _, q⟩
    rw [h4] at q
    obtain ⟨ad, dx, fs, rfl, q1, q2, q3⟩ := hx
    refine ⟨c, cd, i, fd, ad, dx, fs, h1, h2, h3, h4, rfl, s.sub _ _ q1, ?_, r, q, hq⟩
    have hn := (g.wf.meth c cd mt i h1 h2).2
    rw [g.wf.fields] at q2
    have : cd.fields = Γ.fields c := by unfold Pg.fields; rw [h1]
    rw [this, ← q2] at hn
    cases el : fs.lookup mt with
    | none => rfl
    | some w => exact absurd (List.mem_map.mpr ⟨_, PySem.mem_of_lookup el, rfl⟩) hn
  | ref ri =>
    obtain ⟨ad, rfl, ha⟩ := hx
    unfold M.bind clsM at q
    simp only at q
    cases ec : S[ri]? with
    | none => rw [ec] at q; cases q
    | some cell =>
      rw [ec] at q
      cases cell with
      | obj c fs =>
        simp only at q
        cases el : fs.lookup mt with
        | some w => rw [el] at q; cases q
        | none =>
          rw [el] at q
          simp only at q
          obtain ⟨cd, i, fd, h1, h2, h3, h4⟩ := hm c ⟨_, _, q⟩
          rw [h4] at q
          obtain ⟨dx, ws, w1, w2, w3⟩ := s.cel _ _ _ ha ec
          exact ⟨c, cd, i, fd, ad, dx, ws, h1, h2, h3, h4, rfl, w1, lookup_none2 w2 el, r, q, hq⟩
      | _ => cases q
  | _ => cases q
theorem se_meth (g : GY Γ X G W C k) {mt : Str} (ho : SE X G W o fo) (ha : SA X G W (e :: es) ga) (hb : plainBase o = true)
    (hfew : ((backTo pos (starEach (e :: es) X.env)).all (fun x => !x.1) && (backToKw pos (keywordEach [] X.env)).all (fun x => x.1.isSome)
      && decide ((e :: es).length + ([] : List Keyword).length + (if ([] : List Keyword).isEmpty then 0 else 1) < 30)) = true)
    (hline : (apos.endLine == pos.line) = true) (hst : starEach (e :: es) X.env = (false, eval e X.env) :: starEach es X.env) (hpl : (backTo pos (starEach es X.env)).any (·.1) = false)
    (ht : ∃ pl, eval (.Call (.Attribute o mt apos) (e :: es) [] pos) X.env = (do
      let ov ← eval o X.env
      standAt apos.atName
      let (f, first) ← holding [ov] (getMethod ov mt pl)
      callWith pos f first (backTo pos (starEach (e :: es) X.env)) (backToKw pos (keywordEach [] X.env)))) :
    SE X G W (.Call (.Attribute o mt apos) (e :: es) [] pos) (eMeth Γ C mt fo ga) := by
  obtain ⟨pl, ht⟩ := ht
  refine ⟨fun pins s σ H Q I h => ?_⟩
  refine PySem.W.methodCall_KW (pl := pl) (thn (ho.run pins s σ H _ I (tM.bind h)) fun u s1 ⟨x, H1, I1, rx, m, F, ρ, S, d, s', hρ, hx, r⟩ => ?_) ht
  have r' : Run G W σ (relD G) (.bind (clsM mt d) fun c => match Γ.meth c mt with
      | some (i, n) => (match Γ.meth c mt with
        | some (i, n) => .bind (ga ρ) fun ds => .guard (ds.length + 1 = n) (C.fn i (d :: ds))
        | none => .stuck)
      | none => .stuck) m F S Q := by
    have : (fun c => match Γ.meth c mt with
      | some (i, n) => (match Γ.meth c mt with
        | some (i, n) => M.bind (ga ρ) fun ds => M.guard (ds.length + 1 = n) (C.fn i (d :: ds))
        | none => M.stuck)
      | none => M.stuck) = fun c => match Γ.meth c mt with
      | some (i, n) => M.bind (ga ρ) fun ds => M.guard (ds.length + 1 = n) (C.fn i (d :: ds))
      | none => M.stuck := by
      funext c
      cases Γ.meth c mt <;> rfl
    rw [this]; exact r
  obtain ⟨c, cd, i, fd, ad, dx, fs, h1, h2, h3, h4, rfl, h5, h6, r2⟩ := cls_meth g r' s' hx
  rw [h4] at r2
  obtain rfl : u = Value.ref ad := rx
  have cl := g.wf.cls c cd h1
  have mt' := (g.wf.meth c cd mt i h1 h2).1
  rw [← g.hK] at cl mt'
  refine getmeth_ok I1 h5 cl mt' h6 ?_
  refine PySem.W.callWith_K (first := [.ref ad]) (h₀ := X.base) I.ok.mod.kin mt'.kp (thn (ha.run pos pins s1 σ H1 _ I1 ⟨m, F, ρ, S, s', hρ, r2.bind⟩) fun us s2 ⟨vs, H2, I2, rv, m2, F2, S2, ds, e2, s2', hxs, r3⟩ => ⟨I2.kIn, ?_⟩) hst hpl
  obtain ⟨hl, r3⟩ := r3.guard
  exact fn_run (us := .ref ad :: us) (vs := .ref ad :: vs) g.calls.fn g.room g.tk g.hK h3 I2 (.cons rfl rv) s2' (relDs.cons (hx.mono e2) hxs) hl r3
theorem se_meth0 (g : GY Γ X G W C k) {mt : Str} (ho : SE X G W o fo)
    (ht : ∃ pl, eval (.Call (.Attribute o mt apos) [] [] pos) X.env = (do
      let ov ← eval o X.env
      standAt apos.atName
      let (f, first) ← holding [ov] (getMethod ov mt pl)
      callWith pos f first (backTo pos (starEach [] X.env)) (backToKw pos (keywordEach [] X.env)))) :
    SE X G W (.Call (.Attribute o mt apos) [] [] pos) (eMeth Γ C mt fo aNil) := by
  obtain ⟨pl, ht⟩ := ht
  refine ⟨fun pins s σ H Q I h => ?_⟩
  refine PySem.W.methodCall_KW (pl := pl) (thn (ho.run pins s σ H _ I (tM.bind h)) fun u s1 ⟨x, H1, I1, rx, m, F, ρ, S, d, s', hρ, hx, r⟩ => ?_) ht
  have r' : Run G W σ (relD G) (.bind (clsM mt d) fun c => match Γ.meth c mt with
      | some (i, n) => (match Γ.meth c mt with
        | some (i, n) => .guard (([] : List D).length + 1 = n) (C.fn i [d])
        | none => .stuck)
      | none => .stuck) m F S Q := by
    have : (fun c => match Γ.meth c mt with
      | some (i, n) => (match Γ.meth c mt with
        | some (i, n) => M.guard (([] : List D).length + 1 = n) (C.fn i [d])
        | none => M.stuck)
      | none => M.stuck) = fun c => match Γ.meth c mt with
      | some (i, n) => M.bind (aNil ρ) fun ds => M.guard (ds.length + 1 = n) (C.fn i (d :: ds))
      | none => M.stuck := by
      funext c
      cases Γ.meth c mt <;> rfl
    rw [this]; exact r
  obtain ⟨c, cd, i, fd, ad, dx, fs, h1, h2, h3, h4, rfl, h5, h6, r2⟩ := cls_meth g r' s' hx
  rw [h4] at r2
  obtain rfl : u = Value.ref ad := rx
  have cl := g.wf.cls c cd h1
  have mt' := (g.wf.meth c cd mt i h1 h2).1
  rw [← g.hK] at cl mt'
  refine getmeth_ok I1 h5 cl mt' h6 ?_
  obtain ⟨hl, r3⟩ := r2.guard
  exact PySem.W.callWith_K0 (first := [.ref ad]) I1.kIn mt'.kp (fn_run (us := [.ref ad]) (vs := [.ref ad]) g.calls.fn g.room g.tk g.hK h3 I1 (.cons rfl .nil) s' (relDs.cons hx relDs.nil) hl r3)
end
end MP

/-! MPO: own comparisons, dict displays. -/
namespace MP
open PySem PySem.Spec PyProof.Rows L2

/-- the class of an instance -/
def clsD (S : Store) : D → Option Nat
  | .obj c _ => some c
  | .ref r => (match S[r]? with
    | some (.obj c _) => some c
    | _ => none)
  | _ => none
def blM : D → M Bool
  | .bl b => .ret b
  | _ => .stuck
def okTy (Γ : Pg) (S : Store) (y : D) : Bool := match tyD S y with
  | some (.c c) => decide (c < Γ.cls.length)
  | some _ => true
  | none => false
def cOwn (Γ : Pg) (C : Calls) (mt : Str) (base : D → D → M Bool) (x y : D) : M Bool := fun S => match clsD S x with
  | some c => (match Γ.meth c mt with
    | some (i, n) => if n = 2 ∧ okTy Γ S y = true then M.bind (C.fn i [x, y]) blM S else none
    | none => none)
  | none => base x y S
section
variable {Γ : Pg} {X : Cx} {G : GW} {W : WX} {C : Calls} {k : Nat}
theorem clsD_ok {σ : St} {x : D} {v : V} {m : List Addr} {F : Hp} {S : Store} {H : Hp} {c : Nat} (h : clsD S x = some c) (s : Sim G m F S H) (hx : relD G m F x v) : ∃ ad dx fs, v = .ref ad ∧ H ad = some (.ins (G.clA c) dx fs) := by
  cases x with
  | obj c' xs =>
    cases h
    obtain ⟨ad, dx, fs, rfl, q1, _⟩ := hx
    exact ⟨ad, dx, fs, rfl, s.sub _ _ q1⟩
  | ref ri =>
    obtain ⟨ad, rfl, ha⟩ := hx
    unfold clsD at h
    simp only at h
    split at h
    · rename_i c' fs ec
      cases h
      obtain ⟨dx, ws, w1, _⟩ := s.cel _ _ _ ha ec
      exact ⟨ad, dx, ws, rfl, w1⟩
    · cases h
  | _ => cases h
theorem mlook {Γ : Pg} {c i n : Nat} {mt : Str} (h : Γ.meth c mt = some (i, n)) : ∃ cd fd, Γ.cls[c]? = some cd ∧ cd.meths.lookup mt = some i ∧ Γ.fns[i]? = some fd ∧ n = fd.ps.length := by
  unfold Pg.meth at h
  split at h
  · rename_i cd hcd
    split at h
    · rename_i i hi
      split at h
      · rename_i fd hfd
        cases h
        exact ⟨cd, fd, hcd, hi, hfd, rfl⟩
      · cases h
    · cases h
  · cases h
theorem tyD_cls (S : Store) {y : D} {t : Ty} (h : tyD S y = some t) : (∃ c, t = .c c) ∨ ∃ T, t = .b T ∧ T ∈ bTypes := by
  unfold tyD at h
  split at h
  case h_8 =>
    split at h
    · cases h; exact .inr ⟨_, rfl, by decide⟩
    · cases h; exact .inr ⟨_, rfl, by decide⟩
    · cases h; exact .inl ⟨_, rfl⟩
    · cases h
  all_goals first
    | (cases h; exact .inr ⟨_, rfl, by decide⟩)
    | (cases h; exact .inl ⟨_, rfl⟩)
    | cases h
theorem cs_own {op : CmpOp} {mt : Str} {base : D → D → M Bool} (g : GY Γ X G W C k) (hop : op = .Eq ∨ op = .NotEq) (hmt : mt = (cmpInfo op).2.1) (hb : CmS X G (compareOp op) base) :
    CmW X G W (compareOp op) (cOwn Γ C mt base) := by
  intro pins s σ H x y v u Q m F S d e I rx ry s' hx hy ⟨r, q, h⟩
  unfold cOwn at q
  cases ec : clsD S d with
  | none => rw [ec] at q; exact hb W pins s σ H x y v u Q m F S d e I rx ry s' hx hy ⟨r, q, h⟩
  | some c =>
    rw [ec] at q
    simp only at q
    cases em : Γ.meth c mt with
    | none => rw [em] at q; cases q
    | some p =>
      obtain ⟨i, n⟩ := p
      rw [em] at q
      simp only at q
      split at q
      case isFalse => cases q
      rename_i hn
      obtain ⟨rfl, hty⟩ := hn
      obtain ⟨cd, fd, h1, h2, h3, h4⟩ := mlook em
      obtain ⟨ad, dx, fs, rfl, hH⟩ := clsD_ok (σ := σ) ec s' hx
      obtain rfl : v = Value.ref ad := rx
      obtain ⟨mA, J, _⟩ := ins_get I.hok hH
      obtain ⟨od, J, _⟩ := J.look
      obtain ⟨mm, hF⟩ := I.fr
      obtain ⟨t, ht, hlt⟩ : ∃ t, tyD S e = some t ∧ ∀ c', t = .c c' → c' < Γ.cls.length := by
        unfold okTy at hty
        split at hty
        · rename_i c2 e2
          exact ⟨_, e2, fun c' z => by cases z; exact of_decide_eq_true hty⟩
        · rename_i t hn e2
          exact ⟨t, by first | exact e2 | rfl, fun c' z => by subst z; exact absurd (by first | exact e2 | rfl) (hn c')⟩
        · cases hty
      have hmeth := (g.wf.meth c cd mt i h1 h2).1
      rw [← g.hK] at hmeth
      -- the other's type
      have hlook : ∃ tb, PySem.W.Looks (model X.prog X.w) s.heap (typeOf u) tb ∧ PySem.W.notFirst X.K (G.clA c) tb = true := by
        have ty := tyD_ok g.wf s' hy ht hlt
        rw [← g.hK] at ty
        obtain ⟨P, Z, p, _⟩ := kit_of I ry ty
        refine ⟨_, Z.ty _ _ I.kIn p, ?_⟩
        rcases tyD_cls S ht with ⟨c', rfl⟩ | ⟨T, rfl, hT⟩
        · have hc' := hlt c' rfl
          by_cases hcc : c = c'
          · subst hcc; simp [Ty.val, PySem.W.notFirst]
          · have := g.wf.sub c c' cd _ h1 (List.getElem?_eq_getElem hc') hcc
            rw [← g.hK] at this
            simp [Ty.val, PySem.W.notFirst, this]
        · have : PySem.W.subIn X.K (.type T) (.ref (G.clA c)) = some false := by
            have hall : ∀ T ∈ bTypes, (fastBuiltinMro T).map (·.contains (.ref (G.clA c))) = some false := by
              intro T hT
              simp only [bTypes, List.mem_cons, List.not_mem_nil, or_false] at hT
              rcases hT with rfl | rfl | rfl | rfl | rfl | rfl | rfl <;> rfl
            exact hall T hT
          simp [Ty.val, PySem.W.notFirst, this]
      obtain ⟨tb, hlk, hnf⟩ := hlook
      have hgo : wpAny (model X.prog X.w) X.A (richCompare op (.ref ad) u) (EP X pins σ fun z H' => ∃ k, z = .bl k ∧ Q k H') X.xe s := by
        refine PySem.W.cmp_K (tb := tb) g.room.units0 hF I.ok.mod.kin J hlk hnf (by rw [← hmt]; exact hmeth.at_) hmeth.fn ?_
        have hrun : Run G W σ (relD G) (C.fn i [d, e]) m F S (fun z H' => ∃ k, z = .bl k ∧ Q k H') := by
          have := Run.bind (G := G) (W := W) (σ := σ) (rel := relD G) (rel' := relB) (x := C.fn i [d, e]) (f := blM) (m := m) (F := F) (S := S) (Q := Q) ⟨r, q, h⟩
          refine this.imp fun b H' ⟨m2, F2, S2, a, e2, s2, ha, r2⟩ => ?_
          cases a with
          | bl bb =>
            obtain rfl : b = .bl bb := ha
            exact ⟨bb, rfl, r2.ret s2 rfl⟩
          | _ => exact r2.stuck.elim
        refine thn (fn_run (us := [.ref ad, u]) (vs := [.ref ad, y]) g.calls.fn g.room g.tk g.hK h3 I (.cons rfl (.cons ry .nil)) s' (relDs.cons hx (relDs.cons hy relDs.nil)) (by rw [← h4]; rfl) hrun) fun w s2 hw => ?_
        obtain ⟨z, H2, I2, rz, kk, ez, hq⟩ := id hw
        subst ez
        cases rz
        exact hw
      rcases hop with rfl | rfl
      · exact hgo
      · exact hgo
end
end MP

/-! MPP: dict displays, `in`. -/
namespace MP
open PySem PySem.Spec PyProof.Rows L2

def dPairs : List (Ev × Ev) → En → M (List (Key × D))
  | [], _ => .ret []
  | (k, v) :: r, ρ => .bind (k ρ) fun x => .bind (v ρ) fun y => match keyD x with
    | some kk => .bind (dPairs r ρ) fun l => .ret ((kk, y) :: l)
    | none => .stuck
def mergeD (kvs more : List (Key × D)) : List (Key × D) := more.foldl (fun acc kv => putD acc kv.1 kv.2) kvs
def fillD (r : Nat) (l : List (Key × D)) : M D := fun S => match S[r]? with
  | some (.dct []) => if l.length ≤ 15 then some (.ok (.ref r) (S.set r (.dct (mergeD [] l)))) else none
  | _ => none
def eDct (ps : List (Ev × Ev)) : Ev := fun ρ S => M.bind (dPairs ps ρ) (fillD S.length) (S ++ [.dct []])
def eDct0 : Ev := fun _ S => some (.ok (.ref S.length) (S ++ [.dct []]))
/-- x in c: a dict's keys -/
def cIn (x c : D) : M Bool := fun S => match c with
  | .ref r => (match S[r]? with
    | some (.dct kvs) => (match keyD x with
      | some k => some (.ok (valD kvs k).isSome S)
      | none => none)
    | _ => none)
  | _ => none
section
variable {Γ : Pg} {X : Cx} {G : GW} {W : WX} {C : Calls} {k : Nat} {pos : Pos}
def relP (G : GW) : List Addr → Hp → List (Key × D) → List (V × V) → Prop := fun m F l ps => ∃ kvs : List (Key × V), ps = kvs.map (fun kv => (kV kv.1, kv.2)) ∧ l.map (·.1) = kvs.map (·.1) ∧ relDs G m F (l.map (·.2)) (kvs.map (·.2))
abbrev trP (G : GW) (W : WX) (ps : List (Ev × Ev)) : List (TE × TE) := ps.map fun p => (tE G W p.1, tE G W p.2)
theorem tPairs_imp : ∀ {trs : List (TE × TE)} {σ : St} {H : Hp} {Q Q' : List (V × V) → Hp → Prop}, (∀ tr ∈ trs, (∀ σ H (R R' : VK), (∀ v H, R v H → R' v H) → tr.1 σ H R → tr.1 σ H R') ∧ (∀ σ H (R R' : VK), (∀ v H, R v H → R' v H) → tr.2 σ H R → tr.2 σ H R')) → (∀ ps H, Q ps H → Q' ps H) → tPairs trs σ H Q → tPairs trs σ H Q'
  | [], _, _, _, _, _, q, h => q _ _ h
  | (a, b) :: r, σ, H, Q, Q', hm, q, h => (hm _ List.mem_cons_self).1 _ _ _ _ (fun x H1 h1 => (hm _ List.mem_cons_self).2 _ _ _ _ (fun y H2 h2 => tPairs_imp (fun tr ht => hm tr (List.mem_cons_of_mem _ ht)) (fun ps H3 h3 => q _ _ h3) h2) h1) h
theorem tPairs_of : ∀ {ps : List (Ev × Ev)} {σ : St} {H : Hp} {Q : List (V × V) → Hp → Prop} {m : List Addr} {F : Hp} {ρ : En} {S : Store}, Sim G m F S H → relE G m F ρ σ → Run G W σ (relP G) (dPairs ps ρ) m F S Q → tPairs (trP G W ps) σ H Q
  | [], σ, H, Q, m, F, ρ, S, s, hρ, h => h.ret s ⟨[], rfl, rfl, relDs.nil⟩
  | (k, v) :: r, σ, H, Q, m, F, ρ, S, s, hρ, h => by
    refine ⟨m, F, ρ, S, s, hρ, (Run.bind (rel := relD G) h).imp fun x H1 ⟨m1, F1, S1, dx, e1, s1, hx, h1⟩ => ?_⟩
    refine ⟨m1, F1, ρ, S1, s1, hρ.mono e1, (Run.bind (rel := relD G) h1).imp fun y H2 ⟨m2, F2, S2, dy, e2, s2, hy, h2⟩ => ?_⟩
    cases ek : keyD dx with
    | none => rw [ek] at h2; exact h2.stuck.elim
    | some kk =>
      rw [ek] at h2
      have := keyD_kV ek hx
      subst this
      refine tPairs_of (ps := r) s2 ((hρ.mono e1).mono e2) ((Run.bind (rel := relP G) h2).imp fun l H3 ⟨m3, F3, S3, dl, e3, s3, ⟨kvs, hk1, hk2, hk3⟩, h3⟩ => ?_)
      subst hk1
      exact h3.ret s3 ⟨(kk, y) :: kvs, rfl, by simp [hk2], relDs.cons (hy.mono e3) hk3⟩
theorem mergeD_rel {m : List Addr} {F : Hp} : ∀ {l : List (Key × D)} {kvs : List (Key × V)} {a : List (Key × D)} {b : List (Key × V)}, l.map (·.1) = kvs.map (·.1) → relDs G m F (l.map (·.2)) (kvs.map (·.2)) → a.map (·.1) = b.map (·.1) → relDs G m F (a.map (·.2)) (b.map (·.2)) →
    (mergeD a l).map (·.1) = (mergeK b kvs).map (·.1) ∧ relDs G m F ((mergeD a l).map (·.2)) ((mergeK b kvs).map (·.2))
  | [], [], a, b, _, _, h1, h2 => ⟨h1, h2⟩
  | [], _ :: _, _, _, h, _, _, _ => by simp at h
  | _ :: _, [], _, _, h, _, _, _ => by simp at h
  | (k, d) :: l, (k', v) :: kvs, a, b, h, r, h1, h2 => by
    obtain ⟨v', vs', e, r1, r2⟩ := r
    simp only [List.map_cons, List.cons.injEq] at h e
    obtain ⟨hk, h⟩ := h
    obtain ⟨e1, e2⟩ := e
    subst hk e1 e2
    obtain ⟨p1, p2⟩ := putD_rel (kk := k) r1 h1 h2
    exact mergeD_rel (l := l) (kvs := kvs) h r2 p1 p2
theorem tE_mono {f : Ev} : ∀ σ H (R R' : VK), (∀ v H, R v H → R' v H) → tE G W f σ H R → tE G W f σ H R' := fun σ H R R' q h => h.imp q
theorem se_dct {keys : List (Option Expr)} {values : List Expr} {ps : List (Ev × Ev)} (h : PPs X pos keys values (trP G W ps)) (hall : keys.all (·.isSome) = true) (hl : keys.length = values.length) (h0 : keys ≠ []) (h15 : keys.length ≤ 15) : SE X G W (.Dict keys values pos) (eDct ps) := by
  refine PEimp (pe_disp h hall hl h0 h15) fun σ H Q h => ?_
  intro p hp
  obtain ⟨m, F, ρ, S, s, hρ, r⟩ := h
  obtain ⟨s1, e1⟩ := s.newC (c := .dct []) (o := .dK []) hp ⟨[], rfl, rfl, relDs.nil⟩
  have r' : Run G W σ (relD G) (M.bind (dPairs ps ρ) (fillD S.length)) (m ++ [p]) F (S ++ [.dct []]) Q := by
    obtain ⟨rr, q, hq⟩ := r
    refine ⟨rr, q, ?_⟩
    cases rr with
    | ok d S' => exact fun m' F' H' b e2 => hq m' F' H' b (e1.trans e2)
    | ex x S' => exact fun m' F' H' b ws e2 => hq m' F' H' b ws (e1.trans e2)
  refine tPairs_of s1 (hρ.mono e1) ((Run.bind (rel := relP G) r').imp fun l H2 ⟨m2, F2, S2, dl, e2, s2, ⟨kvs, hk1, hk2, hk3⟩, rr, q, hq⟩ => ?_)
  subst hk1
  unfold fillD at q
  split at q
  · rename_i ec
    split at q
    · rename_i hl
      cases q
      have ha : m2[S.length]? = some p := e2.pre _ _ (by rw [← s.len]; simp)
      obtain ⟨ws, w1, w2, w3⟩ := s2.cel _ _ _ ha ec
      have hws : ws = [] := by
        cases ws with
        | nil => rfl
        | cons _ _ => simp at w2
      subst hws
      obtain ⟨p1, p2⟩ := mergeD_rel (a := []) (b := []) hk2 hk3 rfl relDs.nil
      have hlen : kvs.length ≤ 15 := by
        have := congrArg List.length hk2
        simp only [List.length_map] at this
        rw [← this]; exact hl
      exact ⟨w1, kvs, rfl, hlen, hq m2 F2 _ _ .refl (s2.write ha (c := .dct (mergeD [] dl)) ⟨_, rfl, p1, p2⟩) ⟨p, rfl, ha⟩⟩
    · cases q
  · cases q
theorem se_dct0 : SE X G W (.Dict [] [] pos) eDct0 := by
  refine PEimp pe_dnewK fun σ H Q ⟨m, F, ρ, S, s, hρ, r, q, hq⟩ => ?_
  intro p hp
  cases q
  obtain ⟨s1, e1⟩ := s.newC (c := .dct []) (o := .dK []) hp ⟨[], rfl, rfl, relDs.nil⟩
  exact hq _ F _ _ e1 s1 ⟨p, rfl, by rw [← s.len]; simp⟩
theorem cs_in (hu : X.A.units + 200 < cLine) : CmS X G (compareOp .In) cIn := by
  intro W pins s σ H x y v u Q m F S d e I rx ry s' hx hy ⟨r, q, h⟩
  unfold cIn at q
  cases e with
  | ref ri =>
    obtain ⟨a, rfl, ha⟩ := hy
    simp only at q
    cases ec : S[ri]? with
    | none => rw [ec] at q; cases q
    | some cell =>
      rw [ec] at q
      cases cell with
      | dct kvs =>
        simp only at q
        cases ek : keyD d with
        | none => rw [ek] at q; cases q
        | some kk =>
          rw [ek] at q
          cases q
          obtain ⟨ws, w1, w2, w3⟩ := s'.cel _ _ _ ha ec
          have := keyD_kV ek hx
          subst this
          obtain rfl : u = Value.ref a := ry
          refine d_in (by omega) I (.k w1) rx fun s3 I3 => ⟨.bl _, H, I3, rfl, _, rfl, ?_⟩
          have hb : (valD kvs kk).isSome = (valV ws kk).isSome := by
            rcases valD_rel (k := kk) w2 w3 with ⟨q1, q2⟩ | ⟨_, _, q1, q2, _⟩
            · rw [q1, q2]; rfl
            · rw [q1, q2]; rfl
          rw [← hb]
          exact h m F H _ .refl s' rfl
      | _ => cases q
  | _ => cases q
end
end MP

/-! MPQ: from the text's expressions to the interpreter. -/
namespace MP
open PySem PySem.Spec PyProof.Rows L2

/-- a def's or a block's names -/
structure Ct where
  N : List Str
  sc : Scope
  fn : Bool
structure CtOk (X : Cx) (c : Ct) : Prop where
  hN : X.N = c.N
  hs : X.env.scope = c.sc
  hf : c.fn = true → ∀ x, X.fn x = true
def eStuck : Ev := fun _ => .stuck
def tStuck : Tv := fun _ => .stuck
def iStuck : Iv := fun _ => .stuck
def Ct.slot (c : Ct) (x : Str) : Option Nat := c.N.findIdx? (· == x)
def isVis (c : Ct) (x : Str) : Bool := match c.sc.names.lookup x with
  | some .local => true
  | some .cell => true
  | some .free => true
  | _ => false
def isGl (c : Ct) (x : Str) : Bool := match c.sc.names.lookup x with
  | some .globalImplicit => true
  | _ => false
def isFree (Γ : Pg) (x : Str) : Bool := match Γ.gl.lookup x with
  | some .free => true
  | _ => false
def badName (x : Str) : Bool := x == ("__debug__" : Str) || x == ("__classdict__" : Str) || x == ("__name__" : Str)
def bTy (x : Str) : Option String :=
  if x = "int" then some "int" else if x = "bool" then some "bool" else if x = "str" then some "str" else if x = "list" then some "list" else if x = "tuple" then some "tuple" else if x = "dict" then some "dict" else none
def cName (Γ : Pg) (c : Ct) (x : Str) : Ev :=
  if badName x then eStuck else
  if isVis c x then (match c.slot x with
    | some i => eSlot i
    | none => eStuck) else
  if isGl c x then (match Γ.gl.lookup x with
    | some (.fn i) => eC (.fn i)
    | some (.cls i) => eC (.cls i)
    | some (.int i) => eC (.int i)
    | some .free => (match bTy x with
      | some n => eC (.ty n)
      | none => eStuck)
    | none => eStuck) else eStuck
def opO : Operator → Option (D → D → M D)
  | .Add => some oAdd
  | .Sub => some oSub
  | .Mult => some oMul
  | .FloorDiv => some oFdiv
  | .Mod => some oMod
  | .Pow => some oPow
  | _ => none
def cNotIn (x c : D) : M Bool := .bind (cIn x c) fun b => .ret (!b)
def cmpO (Γ : Pg) (C : Calls) : CmpOp → D → D → M Bool
  | .Eq => cOwn Γ C "__eq__" cEq
  | .NotEq => cOwn Γ C "__ne__" cNe
  | .Lt => cLt
  | .LtE => cLe
  | .Gt => cGt
  | .GtE => cGe
  | .Is => cIs
  | .IsNot => cIsNot
  | .In => cIn
  | .NotIn => cNotIn
def andE : List Ev → Ev
  | [] => eStuck
  | [a] => a
  | a :: b :: r => eAnd a (andE (b :: r))
def orE : List Ev → Ev
  | [] => eStuck
  | [a] => a
  | a :: b :: r => eOr a (orE (b :: r))
def andT : List Tv → Tv
  | [] => tStuck
  | [a] => a
  | a :: b :: r => tAnd a (andT (b :: r))
def orT : List Tv → Tv
  | [] => tStuck
  | [a] => a
  | a :: b :: r => tOr a (orT (b :: r))
def aOf : List Ev → Av
  | [] => aNil
  | a :: r => aCons a (aOf r)
def chnOf (Γ : Pg) (C : Calls) : List CmpOp → List Ev → Option Chn
  | [op], [f] => some (.last (cmpO Γ C op) f)
  | op :: ops, f :: fs => (match chnOf Γ C ops fs with
    | some r => some (.more (cmpO Γ C op) f r)
    | none => none)
  | _, _ => none
def cmpsE (Γ : Pg) (C : Calls) (E : Expr → Ev) (a : Expr) (ops : List CmpOp) (bs : List Expr) : Tv := match ops, bs with
  | [op], [b] => if behindInMarks op b then tStuck else tCmp (cmpO Γ C op) (E a) (E b)
  | ops, bs => if lastMarks ops bs then tStuck else match chnOf Γ C ops (bs.map E) with
    | some r => tChn (E a) r
    | none => tStuck
def isLC : Expr → Bool
  | .ListComp _ _ _ _ => true
  | _ => false
noncomputable def dropIf (a : Expr) (f : Ev) : Ev := if isLC a then eDrop f else f
def bi1 (x : Str) : Option (D → M D) :=
  if x = "len" then some fLen else if x = "int" then some fInt else if x = "abs" then some fAbs else if x = "tuple" then some fTup else if x = "list" then some fLst else if x = "all" then some fAll else if x = "any" then some fAny else if x = "sum" then some fSum else none
noncomputable def cCall (Γ : Pg) (C : Calls) (c : Ct) (E : Expr → Ev) (x : Str) (args : List Expr) : Ev :=
  if badName x || !isGl c x || !args.all noStar then eStuck else match Γ.gl.lookup x with
  | some (.fn i) => (match Γ.fns[i]? with
    | some f => eCall C i f.ps.length (aOf (args.map E))
    | none => eStuck)
  | some (.cls cl) => (match Γ.cls[cl]? with
    | some cd => (match cd.init with
      | some i => (match Γ.fns[i]? with
        | some f => if 1 ≤ f.ps.length then eNew C cl (f.ps.length - 1) (aOf (args.map E)) else eStuck
        | none => eStuck)
      | none => eStuck)
    | none => eStuck)
  | some .free => (match args with
    | [a] => (match bi1 x with
      | some f => dropIf a (eUn f (E a))
      | none => eStuck)
    | [a, b] => if x = "isinstance" then eOp (fIsi Γ) (E a) (E b) else eStuck
    | _ => eStuck)
  | _ => eStuck
def bm (m : Str) (n : Nat) : Option (String × (D → List D → M D)) :=
  if m = "append" ∧ n = 1 then some ("list", mAppend) else if m = "pop" ∧ n = 0 then some ("list", mPop) else if m = "pop" ∧ n = 1 then some ("list", mPopAt) else if m = "extend" ∧ n = 1 then some ("list", mExtend) else none
def cMeth (Γ : Pg) (C : Calls) (E : Expr → Ev) (o : Expr) (m : Str) (apos pos : Pos) (args : List Expr) : Ev :=
  if !plainBase o || !args.all noStar || !(apos.endLine == pos.line) || !decide (args.length < 30) then eStuck else
  if Γ.cls.any (fun cd => (cd.meths.lookup m).isSome) then eMeth Γ C m (E o) (aOf (args.map E)) else
  match bm m args.length with
  | some p => eM p.1 p.2 (E o) (aOf (args.map E))
  | none => eStuck
/-- a plain subscript -/
def plainIx : Expr → Bool
  | .Slice _ _ _ _ => false
  | _ => true
def plainT : Expr → Bool
  | .Name _ _ => true
  | .Call _ _ _ _ => true
  | .Attribute _ _ _ => true
  | .Subscript _ _ _ => true
  | .BinOp _ _ _ _ => true
  | .Constant _ _ _ => true
  | .ListComp _ _ _ _ => true
  | _ => false
def isTupE : Expr → Bool
  | .Tuple _ _ _ => true
  | _ => false
def isSetE : Expr → Bool
  | .Set _ _ _ => true
  | _ => false
def rngName (Γ : Pg) (c : Ct) (x y : Str) : Bool := decide (x = y) && isGl c x && isFree Γ x
def cIter (Γ : Pg) (c : Ct) (E : Expr → Ev) (tg : Expr) (it : Expr) : Iv := match it with
  | .Call (.Name x _) [a] [] _ => if rngName Γ c x "range" && noStar a then iRng1 (E a) else if rngName Γ c x "enumerate" && noStar a && isTupE tg then iEnum' (E a) else iSeq (E it)
  | .Call (.Name x _) [a, b] [] _ => if rngName Γ c x "range" && noStar a && noStar b then iRng2 (E a) (E b) else if rngName Γ c x "zip" && noStar a && noStar b && isTupE tg then iZip (E a) (E b) else iSeq (E it)
  | e => if isSetE e then iStuck else iSeq (E e)
def tgName (c : Ct) (x : Str) : Option Nat := match c.sc.names.lookup x with
  | some .local => c.slot x
  | some .cell => if c.fn then c.slot x else none
  | _ => none
def tgNames (c : Ct) : List Expr → Option (List Nat)
  | [] => some []
  | .Name x _ :: r => (match tgName c x, tgNames c r with
    | some i, some is => some (i :: is)
    | _, _ => none)
  | _ => none
def cTg (c : Ct) : Expr → Option Tg
  | .Name x _ => (tgName c x).map .one
  | .Tuple es _ _ => (tgNames c es).map .many
  | _ => none
def ownOf (N : List Str) (scope : Scope) : List (Str × Nat) := scope.names.filterMap fun y => if y.2 == .local || y.2 == .cell then (N.findIdx? (· == y.1)).map fun i => (y.1, i) else none
def cIfs (T : Expr → Tv) : List Expr → Option Tv
  | [] => some tTrue
  | [a] => some (T a)
  | _ => none
noncomputable def cComp (Γ : Pg) (c : Ct) (E : Ct → Expr → Ev) (T : Ct → Expr → Tv) (elt tg it : Expr) (ifs : List Expr) (scope : Scope) : Ev :=
  let c' : Ct := ⟨c.N, relS scope c.sc, false⟩
  if blkC c.N c.sc scope (ownOf c.N scope) && !isSetE it then (match cTg c' tg, cIfs (T c') ifs with
    | some t, some fc => if t.slots.all (fun i => ((ownOf c.N scope).map (·.2)).contains i) then eComp ((ownOf c.N scope).map (·.2)) (cIter Γ c (E c) tg it) t fc (E c' elt) else eStuck
    | _, _ => eStuck) else eStuck
noncomputable def cLC (Γ : Pg) (c : Ct) (E : Ct → Expr → Ev) (T : Ct → Expr → Tv) (elt : Expr) (gs : List Comprehension) (scope : Scope) : Ev := match gs with
  | [g] => if g.is_async = 0 then cComp Γ c E T elt g.target g.iter g.ifs scope else eStuck
  | _ => eStuck
def optO (E : Expr → Ev) : Option Expr → Ov
  | none => pNone
  | some e => pSome (E e)
def cPairs (E : Expr → Ev) : List (Option Expr) → List Expr → Option (List (Ev × Ev))
  | [], [] => some []
  | some k :: ks, v :: vs => (cPairs E ks vs).map fun r => (E k, E v) :: r
  | _, _ => none
noncomputable def cE (Γ : Pg) (C : Calls) (E : Ct → Expr → Ev) (T : Ct → Expr → Tv) (c : Ct) (e : Expr) : Ev := match e with
  | .Constant (.int i) _ _ => eC (.int i)
  | .Constant (.bool i) _ _ => eC (.bl i)
  | .Constant (.str i) _ _ => eC (.str i)
  | .Constant .none _ _ => eC .non
  | .Name x _ => cName Γ c x
  | .BinOp a op b _ => (match opO op with
    | some o => eOp o (E c a) (E c b)
    | none => eStuck)
  | .UnaryOp .USub a _ => eUn oNeg (E c a)
  | .UnaryOp .Not a _ => eT (tNot (tV (E c a)))
  | .BoolOp .And es _ => andE (es.map (E c))
  | .BoolOp .Or es _ => orE (es.map (E c))
  | .Compare a ops bs _ => eT (cmpsE Γ C (E c) a ops bs)
  | .IfExp t a b _ => eIf (T c t) (E c a) (E c b)
  | .Tuple es _ _ => if es.all noStar then eTup (aOf (es.map (E c))) else eStuck
  | .List es _ => if es.all noStar then eLst (aOf (es.map (E c))) else eStuck
  | .Subscript a (.Slice lo hi none _) _ => eCut (E c a) (optO (E c) lo) (optO (E c) hi)
  | .Subscript a b _ => if plainIx b then eOp oIx (E c a) (E c b) else eStuck
  | .Attribute a f _ => if plainBase a then eUn (oFld Γ f) (E c a) else eStuck
  | .Call (.Name x _) args [] _ => cCall Γ C c (E c) x args
  | .Call (.Attribute o m apos) args [] pos => cMeth Γ C (E c) o m apos pos args
  | .ListComp elt gs scope _ => cLC Γ c E T elt gs scope
  | .Dict [] [] _ => eDct0
  | .Dict (k :: ks) vs _ => (match cPairs (E c) (k :: ks) vs with
    | some ps => if ks.length < 15 then eDct ps else eStuck
    | none => eStuck)
  | _ => eStuck
def cT (Γ : Pg) (C : Calls) (E : Ct → Expr → Ev) (T : Ct → Expr → Tv) (c : Ct) (e : Expr) : Tv := match e with
  | .UnaryOp .Not a _ => tNot (T c a)
  | .BoolOp .And es _ => andT (es.map (T c))
  | .BoolOp .Or es _ => orT (es.map (T c))
  | .Compare a ops bs _ => cmpsE Γ C (E c) a ops bs
  | .IfExp t a b _ => tIf (T c t) (T c a) (T c b)
  | e => if plainT e then tV (E c e) else tStuck
noncomputable def comp (Γ : Pg) (C : Calls) : Nat → (Ct → Expr → Ev) × (Ct → Expr → Tv)
  | 0 => (fun _ _ => eStuck, fun _ _ => tStuck)
  | n + 1 => (cE Γ C (comp Γ C n).1 (comp Γ C n).2, cT Γ C (comp Γ C n).1 (comp Γ C n).2)

section
variable {Γ : Pg} {X : Cx} {G : GW} {W : WX} {C : Calls} {k : Nat} {c : Ct} {a b e tg : Expr} {es : List Expr} {pos apos : Pos} {x : Str} {E : Ct → Expr → Ev} {T : Ct → Expr → Tv}
theorem se_stuck : SE X G W e eStuck := ⟨fun _ _ _ _ _ _ ⟨_, _, _, _, _, _, h⟩ => h.stuck.elim⟩
theorem st_stuck : ST X G W e tStuck := ⟨fun _ _ _ _ _ _ ⟨_, _, _, _, _, _, h⟩ => h.stuck.elim⟩
theorem si_stuck : SI X G W tg e iStuck := ⟨fun _ _ _ _ _ _ ⟨_, _, _, _, _, _, h⟩ => h.stuck.elim⟩
theorem slot_ok (h : CtOk X c) {i : Nat} (hi : c.slot x = some i) : X.N[i]? = some x := by
  unfold Ct.slot at hi
  rw [List.findIdx?_eq_some_iff_getElem] at hi
  obtain ⟨h1, h2, _⟩ := hi
  rw [h.hN, List.getElem?_eq_getElem h1]
  exact congrArg some (beq_iff_eq.mp h2)
theorem vis_ok (h : CtOk X c) (hv : isVis c x = true) : Vis X.env.scope x := by
  unfold isVis at hv
  unfold Vis
  rw [h.hs]
  split at hv
  · exact .inl (by assumption)
  · exact .inr (.inl (by assumption))
  · exact .inr (.inr (by assumption))
  · cases hv
theorem gl_ok (h : CtOk X c) (hv : isGl c x = true) : Gl X x := by
  unfold isGl at hv
  unfold Gl Env.kindOf
  rw [h.hs]
  split at hv
  · assumption
  · cases hv
theorem bTy_ok {n : String} (h : bTy x = some n) : bootBuiltins x = some (.type n) := by
  unfold bTy at h
  repeat' split at h
  all_goals first
    | (cases h; rename_i hx _; subst hx; decide +kernel)
    | (cases h; rename_i hx; subst hx; decide +kernel)
    | cases h
theorem bad_ok (h : ¬ badName x = true) : (x == ("__debug__" : Str)) = false ∧ (x == ("__classdict__" : Str)) = false ∧ x ≠ "__name__" := by
  unfold badName at h
  simp only [Bool.or_eq_true, not_or, Bool.not_eq_true] at h
  exact ⟨h.1.1, h.1.2, fun e => by rw [e] at h; exact absurd h.2 (by decide)⟩
theorem name_ok (h : CtOk X c) (g : GY Γ X G W C k) : SE X G W (.Name x pos) (cName Γ c x) := by
  unfold cName
  split
  · exact se_stuck
  · rename_i hb
    obtain ⟨b1, b2, b3⟩ := bad_ok hb
    split
    · rename_i hv
      split
      · rename_i i hi
        exact se_slot (slot_ok h hi) (vis_ok h hv) b1 b2
      · exact se_stuck
    · split
      · rename_i hg
        split
        · rename_i i hx
          exact se_glob g hx (gl_ok h hg) b1
        · rename_i i hx
          exact se_gcls g hx (gl_ok h hg) b1
        · rename_i i hx
          exact se_gint g hx (gl_ok h hg) b1
        · rename_i hx
          split
          · rename_i n hn
            exact se_gty g hx (gl_ok h hg) (bTy_ok hn) b3 b1
          · exact se_stuck
        · exact se_stuck
      · exact se_stuck
theorem opO_ok (g : GY Γ X G W C k) {op : Operator} {o : D → D → M D} (h : opO op = some o) : OpS X G (binaryOp op) o := by
  cases op <;> first
    | (cases h; done)
    | (cases h; first | exact os_add g.hK | exact os_sub | exact os_mul | exact os_fdiv | exact os_mod | exact os_pow)
theorem cs_notin (hu : X.A.units + 200 < cLine) : CmS X G (compareOp .NotIn) cNotIn := by
  intro W pins s σ H x y v u Q m F S d e I rx ry s' hx hy ⟨r, q, h⟩
  unfold cNotIn M.bind cIn at q
  cases e with
  | ref ri =>
    obtain ⟨a, rfl, ha⟩ := hy
    simp only at q
    cases ec : S[ri]? with
    | none => rw [ec] at q; cases q
    | some cell =>
      rw [ec] at q
      cases cell with
      | dct kvs =>
        simp only at q
        cases ek : keyD d with
        | none => rw [ek] at q; cases q
        | some kk =>
          rw [ek] at q
          cases q
          obtain ⟨ws, w1, w2, w3⟩ := s'.cel _ _ _ ha ec
          have := keyD_kV ek hx
          subst this
          obtain rfl : u = Value.ref a := ry
          refine d_notIn (by omega) I (.k w1) rx fun s3 I3 => ⟨.bl _, H, I3, rfl, _, rfl, ?_⟩
          have hb : (valD kvs kk).isSome = (valV ws kk).isSome := by
            rcases valD_rel (k := kk) w2 w3 with ⟨q1, q2⟩ | ⟨_, _, q1, q2, _⟩
            · rw [q1, q2]; rfl
            · rw [q1, q2]; rfl
          rw [← hb]
          exact h m F H _ .refl s' rfl
      | _ => cases q
  | _ => cases q
theorem cmpO_ok (g : GY Γ X G W C k) (op : CmpOp) : CmW X G W (compareOp op) (cmpO Γ C op) := by
  cases op with
  | Eq => exact cs_own g (.inl rfl) rfl (cs_eq g.hK (units200 g.toGX))
  | NotEq => exact cs_own g (.inr rfl) rfl (cs_ne g.hK (units200 g.toGX))
  | Lt => exact cs_lt.w
  | LtE => exact cs_le.w
  | Gt => exact cs_gt.w
  | GtE => exact cs_ge.w
  | Is => exact cs_is.w
  | IsNot => exact cs_isnot.w
  | In => exact (cs_in (units200 g.toGX)).w
  | NotIn => exact (cs_notin (units200 g.toGX)).w
theorem sa_map {f : Expr → Ev} (h : ∀ e, SE X G W e (f e)) : ∀ {es : List Expr}, es.all noStar = true → SA X G W es (aOf (es.map f))
  | [], _ => sa_nil
  | e :: es, hs => by
    rw [List.all_cons, Bool.and_eq_true] at hs
    exact sa_cons (h e) (sa_map h hs.2) (starEach_one hs.1)
theorem and_ok (g : GX X G W k) {f : Expr → Ev} (h : ∀ e, SE X G W e (f e)) : ∀ {es : List Expr}, SE X G W (.BoolOp .And es pos) (andE (es.map f))
  | [] => se_stuck
  | [a] => se_one (h a)
  | a :: b :: r => se_and g (h a) (and_ok g h (es := b :: r))
theorem or_ok (g : GX X G W k) {f : Expr → Ev} (h : ∀ e, SE X G W e (f e)) : ∀ {es : List Expr}, SE X G W (.BoolOp .Or es pos) (orE (es.map f))
  | [] => se_stuck
  | [a] => se_one (h a)
  | a :: b :: r => se_or g (h a) (or_ok g h (es := b :: r))
theorem pw_stuck : PW X e (tT G W tStuck) := ⟨fun _ _ _ _ _ _ _ ⟨_, _, _, _, _, _, h⟩ => h.stuck.elim⟩
theorem andT_ok {f : Expr → Tv} (h : ∀ e, ST X G W e (f e)) : ∀ {es : List Expr}, PW X (.BoolOp .And es pos) (tT G W (andT (es.map f)))
  | [] => pw_stuck
  | [a] => sw_and1 (h a)
  | a :: b :: r => sw_and (h a) (andT_ok h (es := b :: r))
theorem orT_ok {f : Expr → Tv} (h : ∀ e, ST X G W e (f e)) : ∀ {es : List Expr}, PW X (.BoolOp .Or es pos) (tT G W (orT (es.map f)))
  | [] => pw_stuck
  | [a] => sw_or1 (h a)
  | a :: b :: r => sw_or (h a) (orT_ok h (es := b :: r))
theorem chn_ok (g : GY Γ X G W C k) {f : Expr → Ev} (h : ∀ e, SE X G W e (f e)) : ∀ {ops : List CmpOp} {bs : List Expr} {r : Chn}, chnOf Γ C ops (bs.map f) = some r → SCh X G W ops bs r
  | [], [], _, e => by cases e
  | [], _ :: _, _, e => by cases e
  | [_], [], _, e => by cases e
  | [op], [b], _, e => by cases e; exact .last (cmpO_ok g op) (h b)
  | [op], b :: b' :: bs, _, e => by
    simp only [List.map_cons, chnOf] at e
    cases e
  | op :: op' :: ops, [], _, e => by cases e
  | op :: op' :: ops, [b], _, e => by
    simp only [List.map_cons, List.map_nil, chnOf] at e
    cases e
  | op :: op' :: ops, b :: b' :: bs, r, e => by
    unfold chnOf at e
    simp only [List.map_cons] at e
    split at e
    · rename_i r' hr
      cases e
      exact .more (cmpO_ok g op) (h b) (chn_ok g h (ops := op' :: ops) (bs := b' :: bs) (by simpa using hr))
    · cases e
theorem tStuck_eT : eT tStuck = eStuck := by
  funext ρ S; rfl
theorem cmpsE_ok (g : GY Γ X G W C k) {f : Expr → Ev} (h : ∀ e, SE X G W e (f e)) {ops : List CmpOp} {bs : List Expr} : SE X G W (.Compare a ops bs pos) (eT (cmpsE Γ C f a ops bs)) ∧ ST X G W (.Compare a ops bs pos) (cmpsE Γ C f a ops bs) := by
  unfold cmpsE
  split
  · rename_i op b
    split
    · exact ⟨by rw [tStuck_eT]; exact se_stuck, st_stuck⟩
    · rename_i hm
      exact ⟨se_cmp (cmpO_ok g op) (h a) (h b) (by simpa using hm), st_cmp (cmpO_ok g op) (h a) (h b) (by simpa using hm)⟩
  · rename_i hne
    split
    · exact ⟨by rw [tStuck_eT]; exact se_stuck, st_stuck⟩
    · rename_i hm
      split
      · rename_i r hr
        have hc := chn_ok g h hr
        match ops, bs, hne, hm, hc with
        | op :: op' :: ops, b :: b' :: bs, hne, hm, hc => exact ⟨se_chn (h a) hc (by simpa using hm), st_chn (h a) hc (by simpa using hm)⟩
        | [op], [b], hne, _, _ => exact (hne op b rfl rfl).elim
      · exact ⟨by rw [tStuck_eT]; exact se_stuck, st_stuck⟩
theorem bi1_ok (h : CtOk X c) (g : GY Γ X G W C k) {f : D → M D} {fa : Ev} (hb : bi1 x = some f) (hx : Γ.gl.lookup x = some .free) (hg : Gl X x) (hn : x ≠ "__name__") (hdb : (x == ("__debug__" : Str)) = false) (ha : SE X G W a fa) (hs : noStar a = true) : SE X G W (.Call (.Name x pos) [a] [] apos) (eUn f fa) := by
  unfold bi1 at hb
  split at hb
  · cases hb; rename_i hh; subst hh; exact se_bi1 g hx hg (by decide +kernel) hn hdb (us_len g.hK) ha hs
  split at hb
  · cases hb; rename_i hh; subst hh; exact se_ty1 g hx hg (by decide +kernel) hn hdb us_int ha hs
  split at hb
  · cases hb; rename_i hh; subst hh; exact se_bi1 g hx hg (by decide +kernel) hn hdb us_abs ha hs
  split at hb
  · cases hb; rename_i hh; subst hh; exact se_ty1 g hx hg (by decide +kernel) hn hdb (us_tup g.hK) ha hs
  split at hb
  · cases hb; rename_i hh; subst hh; exact se_ty1 g hx hg (by decide +kernel) hn hdb (us_lst g.hK) ha hs
  split at hb
  · cases hb; rename_i hh; subst hh; exact se_bi1 g hx hg (by decide +kernel) hn hdb (us_all g.calm) ha hs
  split at hb
  · cases hb; rename_i hh; subst hh; exact se_bi1 g hx hg (by decide +kernel) hn hdb (us_any g.calm) ha hs
  split at hb
  · cases hb; rename_i hh; subst hh; exact se_bi1 g hx hg (by decide +kernel) hn hdb (us_sum g.calm) ha hs
  · cases hb
theorem dropIf_ok {fa : Ev} {a' : Expr} (h : SE X G W a fa) : SE X G W a (dropIf a' fa) := by
  unfold dropIf
  split
  · exact se_drop h
  · exact h
theorem call_ok (h : CtOk X c) (g : GY Γ X G W C k) {f : Expr → Ev} (hE : ∀ e, SE X G W e (f e)) : SE X G W (.Call (.Name x pos) es [] apos) (cCall Γ C c f x es) := by
  unfold cCall
  split
  · exact se_stuck
  · rename_i hb
    simp only [Bool.or_eq_true, not_or, Bool.not_eq_true', Bool.not_eq_true, Bool.not_eq_false] at hb
    obtain ⟨⟨hb, hg⟩, hst⟩ := hb
    obtain ⟨b1, b2, b3⟩ := bad_ok (x := x) (by simp [hb])
    have hg := gl_ok h hg
    split
    · rename_i i hx
      split
      · rename_i fd hf
        match es, hst with
        | [], _ => exact se_call0 g hx hg hf b1
        | e :: es, hst =>
          have hst' := hst
          rw [List.all_cons, Bool.and_eq_true] at hst'
          exact se_call g hx hg hf (sa_map hE hst) b1 (starEach_one hst'.1) (noStar_any hst'.2)
      · exact se_stuck
    · rename_i cl hx
      split
      · rename_i cd hcd
        split
        · rename_i i hi
          split
          · rename_i fd hf
            split
            · rename_i hl
              match es, hst with
              | [], _ =>
                have : SE X G W (.Call (.Name x pos) [] [] apos) (eNew C cl (fd.ps.length - 1) aNil) := by
                  by_cases h1 : fd.ps.length = 1
                  · rw [h1]
                    exact se_new0 g hx hg hcd hi hf (by omega) b1
                  · refine ⟨fun pins s σ H Q I hh => ?_⟩
                    obtain ⟨m, F, ρ, S, s', _, r⟩ := hh
                    have r : Run G W σ (relD G) (.guard (([] : List D).length = fd.ps.length - 1) (C.new cl [])) m F S Q := r
                    obtain ⟨hl2, _⟩ := r.guard
                    simp only [List.length_nil] at hl2
                    omega
                exact this
              | e :: es, hst =>
                have hst' := hst
                rw [List.all_cons, Bool.and_eq_true] at hst'
                exact se_new g hx hg hcd hi hf (by omega) (sa_map hE hst) b1 (starEach_one hst'.1) (noStar_any hst'.2)
            · exact se_stuck
          · exact se_stuck
        · exact se_stuck
      · exact se_stuck
    · rename_i hx
      match es, hst with
      | [], _ => exact se_stuck
      | [a], hst =>
        simp only
        split
        · rename_i ff hff
          exact dropIf_ok (bi1_ok h g hff hx hg b3 b1 (hE a) (by simpa using hst))
        · exact se_stuck
      | [a, b], hst =>
        simp only
        split
        · rename_i hi
          subst hi
          simp only [List.all_cons, List.all_nil, Bool.and_true, Bool.and_eq_true] at hst
          exact se_bi2 g hx hg (by decide +kernel) b3 b1 (os_isi g) (hE a) (hE b) hst.1 hst.2
        · exact se_stuck
      | _ :: _ :: _ :: _, _ => exact se_stuck
    · exact se_stuck
end
end MP

/-! MPR: expressions are as their image. -/
namespace MP
open PySem PySem.Spec PyProof.Rows L2
section
variable {Γ : Pg} {X : Cx} {G : GW} {W : WX} {C : Calls} {k : Nat} {c : Ct} {a b e o tg it elt : Expr} {es ifs : List Expr} {pos apos : Pos} {x m : Str} {E : Ct → Expr → Ev} {T : Ct → Expr → Tv}
theorem few_ok (hst : es.all noStar = true) (hl : es.length < 30) : ((backTo pos (starEach es X.env)).all (fun x => !x.1) && (backToKw pos (keywordEach [] X.env)).all (fun x => x.1.isSome)
      && decide (es.length + ([] : List Keyword).length + (if ([] : List Keyword).isEmpty then 0 else 1) < 30)) = true := by
  rw [noStar_all hst]
  have : es.length + ([] : List Keyword).length + (if ([] : List Keyword).isEmpty then 0 else 1) < 30 := by simpa using hl
  rw [decide_eq_true this]
  rfl
theorem bm_ok (hK : X.K = G.K) {f : Expr → Ev} (hE : ∀ e, SE X G W e (f e)) {p : String × (D → List D → M D)} (hb : bm m es.length = some p) (hst : es.all noStar = true) (hl : es.length < 30) (hpb : plainBase o = true) (hline : (apos.endLine == pos.line) = true) :
    SE X G W (.Call (.Attribute o m apos) es [] pos) (eM p.1 p.2 (f o) (aOf (es.map f))) := by
  unfold bm at hb
  split at hb
  · rename_i h1
    cases hb
    obtain ⟨rfl, h2⟩ := h1
    match es, h2, hst, hl with
    | [a], _, hst, hl =>
      have hst' := hst
      rw [List.all_cons, Bool.and_eq_true] at hst'
      exact se_bm hK mi_append PySem.F.plainAttrs_list PySem.F.slot_list_append PySem.F.type_list_append (hE o) (sa_map hE hst) hpb (few_ok hst hl) hline (starEach_one hst'.1) (noStar_any hst'.2)
  split at hb
  · rename_i h1
    cases hb
    obtain ⟨rfl, h2⟩ := h1
    match es, h2 with
    | [], _ => exact se_bm0 hK mi_pop PySem.F.plainAttrs_list PySem.F.slot_list_pop PySem.F.type_list_pop (hE o) hpb hline
  split at hb
  · rename_i h1
    cases hb
    obtain ⟨rfl, h2⟩ := h1
    match es, h2, hst, hl with
    | [a], _, hst, hl =>
      have hst' := hst
      rw [List.all_cons, Bool.and_eq_true] at hst'
      exact se_bm hK mi_popAt PySem.F.plainAttrs_list PySem.F.slot_list_pop PySem.F.type_list_pop (hE o) (sa_map hE hst) hpb (few_ok hst hl) hline (starEach_one hst'.1) (noStar_any hst'.2)
  split at hb
  · rename_i h1
    cases hb
    obtain ⟨rfl, h2⟩ := h1
    match es, h2, hst, hl with
    | [a], _, hst, hl =>
      have hst' := hst
      rw [List.all_cons, Bool.and_eq_true] at hst'
      exact se_bm hK mi_extend PySem.F.plainAttrs_list PySem.F.slot_list_extend PySem.F.type_list_extend (hE o) (sa_map hE hst) hpb (few_ok hst hl) hline (starEach_one hst'.1) (noStar_any hst'.2)
  · cases hb
theorem ev_meth (hst : es.all noStar = true) (hl : es.length < 30) (hpb : plainBase o = true) (hline : (apos.endLine == pos.line) = true) : eval (.Call (.Attribute o m apos) es [] pos) X.env = (do
      let ov ← eval o X.env
      standAt apos.atName
      let (f, first) ← holding [ov] (getMethod ov m (plainOf o X.env))
      callWith pos f first (backTo pos (starEach es X.env)) (backToKw pos (keywordEach [] X.env))) := by
  rw [arm_eval_Call, plainBase_eq hpb]
  congr 1
  funext ov
  congr 1
  funext _
  have hf : methodCallForm (es.length + ([] : List Keyword).length) (backTo pos (starEach es X.env)) (backToKw pos (keywordEach [] X.env)) = true := few_ok hst hl
  exact mcall_line hf hline
theorem meth_ok (g : GY Γ X G W C k) {f : Expr → Ev} (hE : ∀ e, SE X G W e (f e)) : SE X G W (.Call (.Attribute o m apos) es [] pos) (cMeth Γ C f o m apos pos es) := by
  unfold cMeth
  split
  · exact se_stuck
  · rename_i hb
    simp only [Bool.or_eq_true, not_or, Bool.not_eq_true', Bool.not_eq_true, Bool.not_eq_false, decide_eq_true_eq, decide_eq_false_iff_not] at hb
    obtain ⟨⟨⟨h1, h2⟩, h3⟩, h4⟩ := hb
    have h4 : es.length < 30 := by omega
    split
    · match es, h2, h4 with
      | [], h2, h4 => exact se_meth0 g (hE o) ⟨_, ev_meth h2 h4 h1 h3⟩
      | e :: es, h2, h4 =>
        have h2' := h2
        rw [List.all_cons, Bool.and_eq_true] at h2'
        exact se_meth g (hE o) (sa_map hE h2) h1 (few_ok h2 h4) h3 (starEach_one h2'.1) (noStar_any h2'.2) ⟨_, ev_meth h2 h4 h1 h3⟩
    · split
      · rename_i p hp
        exact bm_ok g.hK hE hp h2 h4 h1 h3
      · exact se_stuck
theorem free_ok (h : isFree Γ x = true) : Γ.gl.lookup x = some .free := by
  unfold isFree at h
  split at h
  · assumption
  · cases h
theorem rng_ok (h : CtOk X c) (g : GY Γ X G W C k) {y : Str} (hr : rngName Γ c x y = true) : x = y ∧ Gl X x ∧ X.mg x = none := by
  unfold rngName at hr
  rw [Bool.and_eq_true, Bool.and_eq_true] at hr
  exact ⟨of_decide_eq_true hr.1.1, gl_ok h hr.1.2, g.wf.free _ (free_ok hr.2)⟩
theorem iter_ok (h : CtOk X c) (g : GY Γ X G W C k) {f : Expr → Ev} (hE : ∀ e, SE X G W e (f e)) : SI X G W tg it (cIter Γ c f tg it) := by
  unfold cIter
  split
  · rename_i x p a p2
    split
    · rename_i hr
      rw [Bool.and_eq_true] at hr
      obtain ⟨rfl, r2, r3⟩ := rng_ok h g hr.1
      exact si_rng1 r2 r3 (hE a) hr.2
    · split
      · rename_i hr
        rw [Bool.and_eq_true, Bool.and_eq_true] at hr
        obtain ⟨rfl, r2, r3⟩ := rng_ok h g hr.1.1
        cases tg with
        | Tuple elts kk tp => exact si_enum g.hK r2 r3 (hE a) hr.1.2
        | _ => cases hr.2
      · exact si_seq g.hK (hE _)
  · rename_i x p a b p2
    split
    · rename_i hr
      rw [Bool.and_eq_true, Bool.and_eq_true] at hr
      obtain ⟨rfl, r2, r3⟩ := rng_ok h g hr.1.1
      exact si_rng2 r2 r3 (hE a) (hE b) hr.1.2 hr.2
    · split
      · rename_i hr
        rw [Bool.and_eq_true, Bool.and_eq_true, Bool.and_eq_true] at hr
        obtain ⟨rfl, r2, r3⟩ := rng_ok h g hr.1.1.1
        cases tg with
        | Tuple elts kk tp => exact si_zip g.hK r2 r3 (hE a) (hE b) hr.1.1.2 hr.1.2
        | _ => cases hr.2
      · exact si_seq g.hK (hE _)
  · split
    · exact si_stuck
    · exact si_seq g.hK (hE _)
theorem folded_ok (h : isSetE it = false) : ∀ x, foldedSetIterable it X.env x = pure x := by
  intro x
  cases it <;> first
    | rfl
    | cases h
theorem tgName_ok (h : CtOk X c) {i : Nat} (ht : tgName c x = some i) : X.N[i]? = some x ∧ Loc X.env.scope x ∧ (X.fn x = true ∨ X.env.scope.names.lookup x = some .local) := by
  unfold tgName at ht
  unfold L2.Loc
  rw [h.hs]
  split at ht
  · rename_i hl
    exact ⟨slot_ok h ht, .inl hl, .inr hl⟩
  · rename_i hl
    split at ht
    · rename_i hf
      exact ⟨slot_ok h ht, .inr hl, .inl (h.hf hf x)⟩
    · cases ht
  · cases ht
theorem tgNames_ok (h : CtOk X c) : ∀ {es : List Expr} {is : List Nat}, tgNames c es = some is → Names X es is
  | [], is, e => by cases e; exact .nil
  | e :: es, is, he => by
    unfold tgNames at he
    split at he
    · rename_i heq; cases heq
    · rename_i x p r heq
      cases heq
      split at he
      · rename_i i is' h1 h2
        cases he
        obtain ⟨q1, q2, q3⟩ := tgName_ok h h1
        exact .cons q1 q2 q3 (tgNames_ok h h2)
      · cases he
    · cases he
theorem tg_ok (h : CtOk X c) (g : GX X G W k) {t : Tg} (ht : cTg c tg = some t) : SG X tg t := by
  unfold cTg at ht
  split at ht
  · rename_i x p
    obtain ⟨i, h1, rfl⟩ := Option.map_eq_some_iff.mp ht
    obtain ⟨q1, q2, q3⟩ := tgName_ok h h1
    exact sg_one g.nd q1 q2 q3
  · rename_i es kk p
    obtain ⟨is, h1, rfl⟩ := Option.map_eq_some_iff.mp ht
    exact sg_many g.calm g.nd (tgNames_ok h h1)
  · cases ht
theorem ifs_ok {f : Expr → Tv} (hT : ∀ e, ST X G W e (f e)) {fc : Tv} (hf : cIfs f ifs = some fc) : PTs X ifs (tT G W fc) := by
  unfold cIfs at hf
  split at hf
  · cases hf
    refine ⟨fun pins s σ H Q I hw => pts_nil.run pins s σ H Q I ?_⟩
    obtain ⟨m, F, ρ, S, s', hρ, r⟩ := hw
    exact r.ret s' rfl
  · cases hf
    exact pts_one (hT _)
  · cases hf
/-- expressions at every context -/
def OkE (Γ : Pg) (G : GW) (C : Calls) (k : Nat) (E : Ct → Expr → Ev) : Prop := ∀ (X : Cx) (W : WX) (c : Ct) (e : Expr), CtOk X c → GY Γ X G W C k → SE X G W e (E c e)
def OkT (Γ : Pg) (G : GW) (C : Calls) (k : Nat) (T : Ct → Expr → Tv) : Prop := ∀ (X : Cx) (W : WX) (c : Ct) (e : Expr), CtOk X c → GY Γ X G W C k → ST X G W e (T c e)
theorem blk_ct (h : CtOk X c) {scope : Scope} {s : Shared} {H : Hp} {Ca : Addr} {cl : List (Str × Addr)} {fp : List Addr} : CtOk (X.blk s H scope (compEnvC scope cl Ca X.env) fp) ⟨c.N, relS scope c.sc, false⟩ :=
  ⟨h.hN, by rw [← h.hs]; rfl, fun z => by cases z⟩
theorem blk_gy (g : GY Γ X G W C k) {scope : Scope} {s : Shared} {H : Hp} {Ca : Addr} {cl : List (Str × Addr)} {fp : List Addr} : GY Γ (X.blk s H scope (compEnvC scope cl Ca X.env) fp) G W0 C k :=
  ⟨⟨g.hK, g.calm, g.nd, g.room, LamX.takes0⟩, g.wf, ⟨g.calls.fn, g.calls.new⟩⟩
theorem comp_ok1 (h : CtOk X c) (g : GY Γ X G W C k) (hE : OkE Γ G C k E) (hT : OkT Γ G C k T) {scope : Scope} : SE X G W (.ListComp elt [⟨tg, it, ifs, 0⟩] scope pos) (cComp Γ c E T elt tg it ifs scope) := by
  unfold cComp
  simp only
  split
  · rename_i hb
    rw [Bool.and_eq_true] at hb
    obtain ⟨hb, hn⟩ := hb
    have hn : isSetE it = false := by simpa using hn
    split
    · rename_i t fc ht hf
      split
      · rename_i hs
        have ok := blkOk_by hb
        rw [← h.hN, ← h.hs] at ok
        rw [← h.hN] at hs ⊢
        refine se_comp g.toGX (iter_ok h g fun e => hE X W c e h g) ok (fun s H Ca cl fp => ?_) (fun s H Ca cl fp => ?_) (fun s H Ca cl fp => ?_) (folded_ok hn) (fun i hi => ?_)
        · refine tg_ok (c := ⟨c.N, relS scope c.sc, false⟩) (blk_ct h) (blk_gy g).toGX ?_
          exact ht
        · exact ifs_ok (fun e => hT _ W0 _ e (blk_ct h) (blk_gy g)) hf
        · rw [h.hN]
          exact hE _ W0 _ elt (blk_ct h) (blk_gy g)
        · have := List.all_eq_true.mp hs i hi
          exact List.contains_iff_mem.mp this
      · exact se_stuck
    · exact se_stuck
  · exact se_stuck
theorem lc_ok (h : CtOk X c) (g : GY Γ X G W C k) (hE : OkE Γ G C k E) (hT : OkT Γ G C k T) {scope : Scope} {gs : List Comprehension} : SE X G W (.ListComp elt gs scope pos) (cLC Γ c E T elt gs scope) := by
  unfold cLC
  split
  · rename_i gg
    split
    · rename_i h0
      obtain ⟨tg, it, ifs, n⟩ := gg
      obtain rfl : n = 0 := h0
      exact comp_ok1 h g hE hT
    · exact se_stuck
  · exact se_stuck
theorem pairs_ok {f : Expr → Ev} (hE : ∀ e, SE X G W e (f e)) : ∀ {ks : List (Option Expr)} {vs : List Expr} {ps : List (Ev × Ev)}, cPairs f ks vs = some ps → PPs X pos ks vs (trP G W ps) ∧ ks.all (·.isSome) = true ∧ ks.length = vs.length
  | [], [], ps, e => by cases e; exact ⟨pps_nil, rfl, rfl⟩
  | [], _ :: _, ps, e => by cases e
  | none :: _, _, ps, e => by cases e
  | some k :: ks, [], ps, e => by cases e
  | some k :: ks, v :: vs, ps, e => by
    unfold cPairs at e
    obtain ⟨r, h1, rfl⟩ := Option.map_eq_some_iff.mp e
    obtain ⟨q1, q2, q3⟩ := pairs_ok hE h1
    exact ⟨pps_cons (hE k) (hE v) q1, by simpa using q2, by simp [q3]⟩
theorem opt_ok {f : Expr → Ev} (hE : ∀ e, SE X G W e (f e)) : ∀ (oe : Option Expr), SO X G W oe (optO f oe)
  | none => so_none
  | some e => so_some (hE e)
theorem plain_ix (h : plainIx b = true) : PlainIx b := by
  intro o i
  cases b <;> first
    | rfl
    | cases h
theorem cE_ok (hE : OkE Γ G C k E) (hT : OkT Γ G C k T) : OkE Γ G C k (cE Γ C E T) := by
  intro X W c e h g
  have hE' : ∀ e, SE X G W e (E c e) := fun e => hE X W c e h g
  have hT' : ∀ e, ST X G W e (T c e) := fun e => hT X W c e h g
  unfold cE
  split
  · exact se_int
  · exact se_bool
  · exact se_str
  · exact se_none
  · exact name_ok h g
  · split
    · rename_i o ho
      exact se_op (opO_ok g ho) (hE' _) (hE' _)
    · exact se_stuck
  · exact se_un us_neg (hE' _)
  · exact se_not g.toGX (hE' _)
  · exact and_ok g.toGX hE'
  · exact or_ok g.toGX hE'
  · exact (cmpsE_ok g hE').1
  · exact se_if (hT' _) (hE' _) (hE' _)
  · split
    · rename_i hs; exact se_tup (sa_map hE' hs)
    · exact se_stuck
  · split
    · rename_i hs; exact se_lst (sa_map hE' hs)
    · exact se_stuck
  · exact se_cut g.toGX (hE' _) (opt_ok hE' _) (opt_ok hE' _)
  · split
    · rename_i hs; exact se_ix g.toGX (hE' _) (hE' _) (plain_ix hs)
    · exact se_stuck
  · split
    · rename_i hs; exact se_fld g (hE' _) hs
    · exact se_stuck
  · exact call_ok h g hE'
  · exact meth_ok g hE'
  · exact lc_ok h g hE hT
  · exact se_dct0
  · split
    · rename_i ps hp
      split
      · rename_i hl
        obtain ⟨q1, q2, q3⟩ := pairs_ok hE' hp
        exact se_dct q1 q2 q3 (by simp) (by simp; omega)
      · exact se_stuck
    · exact se_stuck
  · exact se_stuck
theorem cT_ok (hE : OkE Γ G C k E) (hT : OkT Γ G C k T) : OkT Γ G C k (cT Γ C E T) := by
  intro X W c e h g
  have hE' : ∀ e, SE X G W e (E c e) := fun e => hE X W c e h g
  have hT' : ∀ e, ST X G W e (T c e) := fun e => hT X W c e h g
  unfold cT
  split
  · exact st_not (hT' _)
  · exact (andT_ok hT').pt
  · exact (orT_ok hT').pt
  · exact (cmpsE_ok g hE').2
  · exact st_if (hT' _) (hT' _) (hT' _)
  · split
    · rename_i hp
      refine st_val g.toGX (hE' _) ?_
      intro whole
      cases e <;> first
        | rfl
        | cases hp
    · exact st_stuck
theorem comp_ok : ∀ n, OkE Γ G C k (comp Γ C n).1 ∧ OkT Γ G C k (comp Γ C n).2
  | 0 => ⟨fun _ _ _ _ _ _ => se_stuck, fun _ _ _ _ _ _ => st_stuck⟩
  | n + 1 => ⟨cE_ok (comp_ok n).1 (comp_ok n).2, cT_ok (comp_ok n).1 (comp_ok n).2⟩
end
end MP

/-! MPS: from the text's statements to the interpreter. -/
namespace MP
open PySem PySem.Spec PyProof.Rows L2

def swapQ (kind : Str → Option NameKind) (ts vs : List Expr) : Option (Option (List Str)) :=
  if (!(ts.length == 2 || ts.length == 3) || vs.length != ts.length) = true then some none else
  if (vs.any fun | .Starred .. => true | _ => false) = true then some none else
  let line := (ts.head?.map (·.pos.line)).getD 0
  let names := ts.filterMap fun
    | .Name id pos => if kind id == some .local && pos.line == line then some id else none
    | _ => none
  if (names.length != ts.length || names.eraseDups.length != names.length) = true then some none else
  if vs.all (foldedForSure 8) = true then some none else
  if vs.all (constantsAlone 8) = true then none else some (some names)
theorem swapQ_ok {env : Env} {ts vs : List Expr} {k k2 : Nat} {p p2 : Pos} {r : Option (List Str)} (hb : env.blockKind = .function) (h : swapQ env.kindOf ts vs = some r) : swappedStores [.Tuple ts k p] (.Tuple vs k2 p2) env = pure r := by
  unfold swapQ at h
  unfold swappedStores
  simp only [hb] at h ⊢
  split at h
  · rename_i h1
    cases h
    exact if_pos (by rw [Bool.or_eq_true, h1]; exact .inl rfl)
  rename_i h1
  refine (if_neg (by rw [Bool.or_eq_true]; rintro (z | z); exact h1 z; cases z)).trans ?_
  split at h
  · rename_i h2
    cases h
    exact if_pos h2
  rename_i h2
  refine (if_neg h2).trans ?_
  split at h
  · rename_i h3
    cases h
    exact if_pos h3
  rename_i h3
  refine (if_neg h3).trans ?_
  split at h
  · rename_i h4
    cases h
    exact if_pos h4
  rename_i h4
  refine (if_neg h4).trans ?_
  split at h
  · cases h
  rename_i h5
  cases h
  exact if_neg h5

def isCompE : Expr → Bool
  | .ListComp _ _ _ _ => true
  | .SetComp _ _ _ _ => true
  | .DictComp _ _ _ _ _ => true
  | _ => false
def isStarE : Expr → Bool
  | .Starred _ _ => true
  | _ => false
def allSome {α : Type} : List (Option α) → Option (List α)
  | [] => some []
  | some a :: r => (allSome r).map (a :: ·)
  | none :: _ => none
/-- a target -/
def cG (Γ : Pg) (c : Ct) (E : Expr → Ev) : Nat → Expr → Option Gv
  | 0, _ => none
  | n + 1, e => match e with
    | .Name x _ => (tgName c x).map gOne
    | .Subscript o i _ => if plainIx i then some (gSubS (E o) (E i)) else none
    | .Attribute o f _ => some (gFldS Γ f (E o))
    | .Tuple es _ _ => (allSome (es.map (cG Γ c E n))).map gTupG
    | _ => none
/-- a name's own slot, one of the def's locals -/
def locName (c : Ct) (x : Str) : Option Nat := match c.sc.names.lookup x with
  | some .local => c.slot x
  | _ => none
def cAsgG (Γ : Pg) (c : Ct) (E : Expr → Ev) (tg e : Expr) : Sv := match cG Γ c E 4 tg with
  | some g => sAsg g (E e)
  | none => sStuck
def isLCE : Expr → Option (Scope × Pos)
  | .ListComp _ _ s p => some (s, p)
  | _ => none
def cTupA (Γ : Pg) (c : Ct) (E : Expr → Ev) (ts : List Expr) (k : Nat) (p : Pos) (vs : List Expr) (k2 : Nat) (p2 : Pos) : Sv := match swapQ (fun x => c.sc.names.lookup x) ts vs with
  | none => sStuck
  | some none => cAsgG Γ c E (.Tuple ts k p) (.Tuple vs k2 p2)
  | some (some xs) => (match xs, ts, vs with
    | [x1, x2], [.Name y1 _, .Name y2 _], [a, b] => (match locName c y1, locName c y2 with
      | some i, some j => if x1 = y1 ∧ x2 = y2 ∧ i ≠ j ∧ [a, b].all noStar = true then sPar [i, j] (aOf ([a, b].map E)) else sStuck
      | _, _ => sStuck)
    | [x1, x2, x3], [.Name y1 _, .Name y2 _, .Name y3 _], [a, b, d] => (match locName c y1, locName c y2, locName c y3 with
      | some i, some j, some l => if (x1 = y1 ∧ x2 = y2 ∧ x3 = y3) ∧ (i ≠ j ∧ i ≠ l ∧ j ≠ l) ∧ [a, b, d].all noStar = true then sPar [i, j, l] (aOf ([a, b, d].map E)) else sStuck
      | _, _, _ => sStuck)
    | _, _, _ => sStuck)
def cAsg (Γ : Pg) (c : Ct) (E : Expr → Ev) (tg e : Expr) : Sv := match e with
  | .SetComp _ _ _ _ => sStuck
  | .DictComp _ _ _ _ _ => sStuck
  | .ListComp _ _ _ _ => (match tg with
    | .Name x _ => (match tgName c x with
      | some i => sAsg (gOne i) (E e)
      | none => sStuck)
    | tg => cAsgG Γ c E tg e)
  | .Tuple vs k2 p2 => (match tg with
    | .Tuple ts k p => cTupA Γ c E ts k p vs k2 p2
    | .List _ _ => sStuck
    | tg => cAsgG Γ c E tg e)
  | e => (match tg with
    | .List _ _ => sStuck
    | tg => cAsgG Γ c E tg e)
def sts (f : Stmt → Sv) : List Stmt → Sv
  | [] => sNx
  | [s] => f s
  | s :: t :: r => sSeq (f s) (sts f (t :: r))
noncomputable def cS (Γ : Pg) (C : Calls) (c : Ct) (E : Expr → Ev) (T : Expr → Tv) (B : List Stmt → Sv) (st : Stmt) : Sv := match st with
  | .Expr (.Constant (.str _) _ _) _ => sNx
  | .Expr e _ => if isCompE e then sStuck else sDrop (E e)
  | .Return (some e) _ => sRet (E e)
  | .Return none _ => sRt .non
  | .If t a b _ => sIf (T t) (B a) (B b)
  | .While t b [] _ => sWhile (T t) (B b)
  | .For tg it b [] _ => if isSetE it then sStuck else (match cTg c tg with
    | some t => sFor (cIter Γ c E tg it) t (B b)
    | none => sStuck)
  | .Assign [tg] e _ => cAsg Γ c E tg e
  | .Pass _ => sNx
  | .Break _ => sBk
  | .Continue _ => sCt
  | _ => sStuck
noncomputable def compS (Γ : Pg) (C : Calls) (c : Ct) : Nat → Stmt → Sv
  | 0, _ => sStuck
  | n + 1, st => cS Γ C c ((comp Γ C 30).1 c) ((comp Γ C 30).2 c) (sts (compS Γ C c n)) st
noncomputable def compB (Γ : Pg) (C : Calls) (c : Ct) (b : List Stmt) : Sv := sts (compS Γ C c 20) b

section
variable {Γ : Pg} {X : Cx} {G : GW} {W : WX} {C : Calls} {k : Nat} {c : Ct} {a b e o tg it elt : Expr} {es ifs : List Expr} {pos apos : Pos} {x m : Str} {E : Expr → Ev} {T : Expr → Tv} {st : Stmt} {sl : List Stmt}
theorem ss_stuck : SS X G W st sStuck := ⟨fun _ _ _ _ _ _ ⟨_, _, _, _, _, _, _, q, _⟩ => by cases q⟩
theorem allSome_ok {α : Type} : ∀ {l : List (Option α)} {r : List α}, allSome l = some r → l = r.map some
  | [], r, h => by cases h; rfl
  | some a :: l, r, h => by
    unfold allSome at h
    obtain ⟨r', h1, rfl⟩ := Option.map_eq_some_iff.mp h
    rw [allSome_ok h1]; rfl
  | none :: _, _, h => by cases h
theorem cG_ok (h : CtOk X c) (g : GY Γ X G W C k) (hE : ∀ e, SE X G W e (E e)) : ∀ (n : Nat) {e : Expr} {gv : Gv}, cG Γ c E n e = some gv → SGv X G W e gv ∧ gv.plain ∧ (∀ es, assignEach (e :: es) X.env = (false, assign e X.env) :: assignEach es X.env)
  | 0, _, _, h => by cases h
  | n + 1, e, gv, he => by
    unfold cG at he
    split at he
    · rename_i x p
      obtain ⟨i, h1, rfl⟩ := Option.map_eq_some_iff.mp he
      obtain ⟨q1, q2, q3⟩ := tgName_ok h h1
      exact ⟨sgv_one g.nd q1 q2 q3, gOne_plain, fun _ => rfl⟩
    · rename_i o i p
      split at he
      · rename_i hp
        cases he
        refine ⟨sgv_sub g.toGX (hE o) (hE i) fun v => ?_, gSubS_plain, fun _ => rfl⟩
        cases i <;> first
          | rfl
          | cases hp
      · cases he
    · rename_i o f p
      cases he
      exact ⟨sgv_fld g (hE o), gFldS_plain, fun _ => rfl⟩
    · rename_i es kk p
      obtain ⟨gs, h1, rfl⟩ := Option.map_eq_some_iff.mp he
      have h2 := allSome_ok h1
      have all : ∀ (es : List Expr) (gs : List Gv), es.map (cG Γ c E n) = gs.map some → SGs X G W es gs ∧ ∀ g ∈ gs, g.plain := by
        intro es
        induction es with
        | nil =>
          intro gs hh
          cases gs with
          | nil => exact ⟨.nil, fun _ z => by cases z⟩
          | cons _ _ => cases hh
        | cons e es ih =>
          intro gs hh
          cases gs with
          | nil => cases hh
          | cons gv gs =>
            simp only [List.map_cons, List.cons.injEq] at hh
            obtain ⟨p1, p2, p3⟩ := cG_ok h g hE n hh.1
            obtain ⟨i1, i2⟩ := ih gs hh.2
            exact ⟨.cons p1 (p3 es) i1, fun z hz => by
              rcases List.mem_cons.mp hz with rfl | hz
              · exact p2
              · exact i2 z hz⟩
      obtain ⟨r1, r2⟩ := all es gs h2
      exact ⟨sgv_tup g.calm g.hK r1, gTupG_plain r2, fun _ => rfl⟩
    · cases he
theorem asgG_ok (h : CtOk X c) (g : GY Γ X G W C k) (hE : ∀ e, SE X G W e (E e)) (hs : swapsWithSole [tg] e pos.line X.env = pure false) (hw : swappedStores [tg] e X.env = pure none) : SS X G W (.Assign [tg] e pos) (cAsgG Γ c E tg e) := by
  unfold cAsgG
  split
  · rename_i gv hg
    obtain ⟨p1, p2, p3⟩ := cG_ok h g hE 4 hg
    exact ss_asg p2 (hE e) p1 hs hw (by rw [p3]; rfl)
  · exact ss_stuck
theorem locName_ok (h : CtOk X c) {i : Nat} (hl : locName c x = some i) : X.N[i]? = some x ∧ X.env.scope.names.lookup x = some .local := by
  unfold locName at hl
  rw [h.hs]
  split at hl
  · rename_i hk; exact ⟨slot_ok h hl, hk⟩
  · cases hl
theorem tupA_ok (h : CtOk X c) (g : GY Γ X G W C k) (hE : ∀ e, SE X G W e (E e)) (hb : X.env.blockKind = .function) {ts vs : List Expr} {k1 k2 : Nat} {p p2 : Pos} : SS X G W (.Assign [.Tuple ts k1 p] (.Tuple vs k2 p2) pos) (cTupA Γ c E ts k1 p vs k2 p2) := by
  unfold cTupA
  have hkind : (fun x => c.sc.names.lookup x) = X.env.kindOf := by
    funext x; unfold Env.kindOf; rw [h.hs]
  rw [hkind]
  split
  · exact ss_stuck
  · rename_i hq
    exact asgG_ok h g hE rfl (swapQ_ok hb hq)
  · rename_i xs hq
    have hw := swapQ_ok (k := k1) (k2 := k2) (p := p) (p2 := p2) hb hq
    split
    · rename_i x1 x2 y1 q1 y2 q2 a b
      split
      · rename_i i j hi hj
        split
        · rename_i hc
          obtain ⟨rfl, rfl, hij, hst⟩ := hc
          obtain ⟨a1, a2⟩ := locName_ok h hi
          obtain ⟨b1, b2⟩ := locName_ok h hj
          exact ss_par2 g.toGX a1 b1 hij a2 b2 (sa_map hE hst) hw
        · exact ss_stuck
      · exact ss_stuck
    · rename_i x1 x2 x3 y1 q1 y2 q2 y3 q3 a b d
      split
      · rename_i i j l hi hj hl
        split
        · rename_i hc
          obtain ⟨⟨rfl, rfl, rfl⟩, ⟨hij, hil, hjl⟩, hst⟩ := hc
          obtain ⟨a1, a2⟩ := locName_ok h hi
          obtain ⟨b1, b2⟩ := locName_ok h hj
          obtain ⟨c1, c2⟩ := locName_ok h hl
          exact ss_par3 g.toGX a1 b1 c1 hij hil hjl a2 b2 c2 (sa_map hE hst) hw
        · exact ss_stuck
      · exact ss_stuck
    · exact ss_stuck
/-- what an assignment's value may be where the target is no name -/
theorem noswap (hc : isCompE e = false) : swapsWithSole [tg] e pos.line X.env = pure false := by
  cases e <;> first
    | rfl
    | cases hc
theorem nostores {env : Env} (h1 : isTupE tg = false) (h2 : ∀ ts p, tg ≠ .List ts p) : swappedStores [tg] e env = pure none := by
  cases tg <;> first
    | rfl
    | exact absurd rfl (h2 _ _)
    | cases h1
theorem nostores2 {env : Env} (h1 : isTupE e = false) : swappedStores [tg] e env = pure none := by
  cases tg <;> cases e <;> first
    | rfl
    | cases h1

theorem tS_stuck {g : Gv} {D : Ends} {σ : St} {H : Hp} (h : tS G W (sAsg g eStuck) D σ H) : False := by
  obtain ⟨_, _, _, _, _, _, _, q, _⟩ := h
  cases q
theorem setLc_ok (h : CtOk X c) (g : GY Γ X G W C k) {E0 : Ct → Expr → Ev} {T0 : Ct → Expr → Tv} (hE0 : OkE Γ G C k E0) (hT0 : OkT Γ G C k T0) (hb : X.env.blockKind = .function) {i : Nat} {y : Str} {py lp : Pos} {gs : List Comprehension} {scope : Scope} (hi : tgName c y = some i) :
    SS X G W (.Assign [.Name y py] (.ListComp elt gs scope lp) pos) (sAsg (gOne i) (cE Γ C E0 T0 c (.ListComp elt gs scope lp))) := by
  obtain ⟨q1, q2, q3⟩ := tgName_ok h hi
  have he := cE_ok hE0 hT0 X W c (.ListComp elt gs scope lp) h g
  by_cases hsw : (X.env.blockKind == .function && X.env.kindOf y == some .local && py.line == lp.line && !(scope.names.any fun (n, k) => n == y && (k == .local || k == .cell))) = true
  · have hs : swapsWith (.ListComp elt gs scope lp) (some (.Name y py)) pos.line X.env = pure true := by
      show (pure (X.env.blockKind == .function && X.env.kindOf y == some .local && py.line == lp.line && !(scope.names.any fun (n, k) => n == y && (k == .local || k == .cell))) : Sem Bool) = pure true
      rw [hsw]
    simp only [Bool.and_eq_true, beq_iff_eq] at hsw
    have hyl : X.env.scope.names.lookup y = some .local := hsw.1.1.2
    have stuck : SS X G W (.Assign [.Name y py] (.ListComp elt gs scope lp) pos) (sAsg (gOne i) eStuck) := ⟨fun _ _ _ _ _ _ hh => (tS_stuck hh).elim⟩
    show SS X G W _ (sAsg (gOne i) (cLC Γ c E0 T0 elt gs scope))
    unfold cLC
    split
    case h_2 => exact stuck
    rename_i gg
    split
    case isFalse => exact stuck
    rename_i h0
    obtain ⟨tg, it, ifs, n⟩ := gg
    obtain rfl : n = 0 := h0
    · simp only
      unfold cComp
      simp only
      split
      · rename_i hbb
        rw [Bool.and_eq_true] at hbb
        obtain ⟨hbb, hn⟩ := hbb
        have hn : isSetE it = false := by simpa using hn
        split
        · rename_i t fc ht hf
          split
          · rename_i hsl
            have ok := blkOk_by hbb
            rw [← h.hN, ← h.hs] at ok
            rw [← h.hN] at hsl ⊢
            refine PSimp (ps_setLc (X := X) (wi := tM G W (relI G) (cIter Γ c (E0 c) tg it)) (g := t.g X.K) (tt := tT G W0 fc) (te := tE G W0 (E0 ⟨X.N, relS scope c.sc, false⟩ elt)) g.calm g.nd q1 hyl hs (iter_ok h g fun e => hE0 X W c e h g) ok (fun s H Ca cl fp => ?_) (fun s H Ca cl fp => ?_) (fun s H Ca cl fp => ?_) (folded_ok hn)) fun D σ H hh => ?_
            · refine tg_ok (c := ⟨c.N, relS scope c.sc, false⟩) (blk_ct h) (blk_gy g).toGX ?_
              exact ht
            · exact ifs_ok (fun e => hT0 _ W0 _ e (blk_ct h) (blk_gy g)) hf
            · rw [h.hN]
              exact hE0 _ W0 _ elt (blk_ct h) (blk_gy g)
            · refine comp_red (own := (ownOf X.N scope).map (·.2)) g.toGX (fun j hj => List.contains_iff_mem.mp (List.all_eq_true.mp hsl j hj)) ?_
              refine (tS.bind hh).imp fun x H1 ⟨m, F, ρ, S, d, s, hρ, hx, hr⟩ => ?_
              obtain ⟨r, q, hr⟩ := hr
              cases q
              exact hr m F H1 _ .refl s (hρ.set i hx)
          · exact stuck
        · exact stuck
      · exact stuck
  · have hs : swapsWith (.ListComp elt gs scope lp) (some (.Name y py)) pos.line X.env = pure false := by
      show (pure (X.env.blockKind == .function && X.env.kindOf y == some .local && py.line == lp.line && !(scope.names.any fun (n, k) => n == y && (k == .local || k == .cell))) : Sem Bool) = pure false
      rw [Bool.eq_false_iff.mpr hsw]
    exact ss_asg gOne_plain he (sgv_one g.nd q1 q2 q3) hs rfl rfl
end
end MP

/-! MPT: statements and functions are as their image. -/
namespace MP
open PySem PySem.Spec PyProof.Rows L2
structure GZ (Γ : Pg) (X : Cx) (G : GW) (W : WX) (C : Calls) (k : Nat) : Prop extends GY Γ X G W C k where
  hp : PassesOwn (model X.prog X.w) X.A X.env X.xe
  bk : X.env.blockKind = .function
section
variable {Γ : Pg} {X : Cx} {G : GW} {W : WX} {C : Calls} {k : Nat} {c : Ct} {a b e o tg it elt : Expr} {es ifs : List Expr} {pos apos : Pos} {x m : Str} {E : Expr → Ev} {T : Expr → Tv} {st : Stmt} {sl : List Stmt}
theorem asg_ok (h : CtOk X c) (g : GZ Γ X G W C k) {E0 : Ct → Expr → Ev} {T0 : Ct → Expr → Tv} (hE0 : OkE Γ G C k E0) (hT0 : OkT Γ G C k T0) : SS X G W (.Assign [tg] e pos) (cAsg Γ c (cE Γ C E0 T0 c) tg e) := by
  have hE : ∀ e, SE X G W e (cE Γ C E0 T0 c e) := fun e => cE_ok hE0 hT0 X W c e h g.toGY
  unfold cAsg
  split
  · exact ss_stuck
  · exact ss_stuck
  · rename_i elt gs scope lp
    split
    · rename_i x p
      split
      · rename_i i hi
        exact setLc_ok h g.toGY hE0 hT0 g.bk hi
      · exact ss_stuck
    · rename_i hne
      refine asgG_ok h g.toGY hE ?_ (nostores2 rfl)
      cases tg <;> first
        | rfl
        | exact absurd rfl (hne _ _)
  · rename_i vs k2 p2
    split
    · exact tupA_ok h g.toGY hE g.bk
    · exact ss_stuck
    · rename_i h1 h2
      refine asgG_ok h g.toGY hE rfl (nostores ?_ ?_)
      · cases tg <;> first
          | rfl
          | exact absurd rfl (h1 _ _ _)
      · intro ts p z
        exact h2 _ _ z
  · rename_i n1 n2 n3 n4
    split
    · exact ss_stuck
    · rename_i h2
      refine asgG_ok h g.toGY hE (noswap ?_) (nostores2 ?_)
      · cases e <;> first
          | rfl
          | exact absurd rfl (n1 _ _ _ _)
          | exact absurd rfl (n2 _ _ _ _ _)
          | exact absurd rfl (n3 _ _ _ _)
      · cases e <;> first
          | rfl
          | exact absurd rfl (n4 _ _ _)
theorem sts_ok {f : Stmt → Sv} (h : ∀ st, SS X G W st (f st)) : ∀ {sl : List Stmt}, SSs X G W sl (sts f sl)
  | [] => sss_nil
  | [s] => sss_one (h s)
  | s :: t :: r => sss_cons (h s) (sts_ok h (sl := t :: r))
theorem cS_ok (h : CtOk X c) (g : GZ Γ X G W C k) {E0 : Ct → Expr → Ev} {T0 : Ct → Expr → Tv} (hE0 : OkE Γ G C k E0) (hT0 : OkT Γ G C k T0) {B : List Stmt → Sv} (hB : ∀ sl, SSs X G W sl (B sl)) : SS X G W st (cS Γ C c (cE Γ C E0 T0 c) (cT Γ C E0 T0 c) B st) := by
  have hE : ∀ e, SE X G W e (cE Γ C E0 T0 c e) := fun e => cE_ok hE0 hT0 X W c e h g.toGY
  have hT : ∀ e, ST X G W e (cT Γ C E0 T0 c e) := fun e => cT_ok hE0 hT0 X W c e h g.toGY
  unfold cS
  split
  · exact ss_doc
  · split
    · exact ss_stuck
    · rename_i e _ _ hc
      refine ss_drop (hE _) ?_
      cases e <;> first
        | rfl
        | exact absurd rfl hc
  · exact ss_ret (hE _)
  · exact ss_retN
  · exact ss_if (hT _) (hB _) (hB _)
  · exact ss_while g.hp (hT _) (hB _)
  · split
    · exact ss_stuck
    · rename_i hn
      have hn := Bool.eq_false_iff.mpr hn
      split
      · rename_i t ht
        exact ss_for g.toGX g.hp (iter_ok h g.toGY hE) (tg_ok h g.toGX ht) (hB _) (folded_ok hn)
      · exact ss_stuck
  · exact asg_ok h g hE0 hT0
  · exact ss_pass
  · exact ss_break
  · exact ss_continue
  · exact ss_stuck
theorem compS_ok (h : CtOk X c) (g : GZ Γ X G W C k) : ∀ (n : Nat) (st : Stmt), SS X G W st (compS Γ C c n st)
  | 0, _ => ss_stuck
  | n + 1, st => cS_ok (E0 := (comp Γ C 29).1) (T0 := (comp Γ C 29).2) h g (comp_ok 29).1 (comp_ok 29).2 fun sl => sts_ok (compS_ok h g n)
theorem compB_ok (h : CtOk X c) (g : GZ Γ X G W C k) {b : List Stmt} : SSs X G W b (compB Γ C c b) := sts_ok (compS_ok h g 20)
end

/-! ### functions -/
/-- what is known of a def of the text -/
structure DefF (Γ : Pg) (G : GW) (i : Nat) (f : Fd) (b : Calls → Sv) : Prop where
  ex : ∃ (name qual : Str) (params : Arguments) (body : List Stmt) (scope : Scope) (dV kV doc pm cdv ct oc : Value) (an od : Option Addr) (osl : Array (Option Value)),
    G.K.lookup (G.fnA i) = some ⟨oc, od, .func (PySem.W.fnOf name qual params body scope dV kV doc pm an cdv ct), osl⟩ ∧ PySem.W.codeIn G.K cdv qual = true ∧ FnScope f.N f.ps scope ∧
    (∀ us : List Value, us.length = f.ps.length → bindArgs (PySem.W.fnOf name qual params body scope dV kV doc pm an cdv ct) ⟨us, []⟩ = pure (f.ps.zip us)) ∧ (∀ C, compB Γ C ⟨f.N, scope, true⟩ body = b C)
theorem start_rel {G : GW} {m : List Addr} {F : Hp} {ds : List D} {vs : List V} {N : List Str} (h : relDs G m F ds vs) : relE G m F (ds.map some ++ List.replicate (N.length - ds.length) none) (L2.start N vs) := by
  have hl := h.length
  refine ⟨by unfold L2.start; simp [hl], fun i d e => ?_⟩
  by_cases hi : i < ds.length
  · rw [List.getElem?_append_left (by simpa using hi)] at e
    rw [List.getElem?_map] at e
    cases e2 : ds[i]? with
    | none => rw [e2] at e; cases e
    | some d' =>
      rw [e2] at e; cases e
      obtain ⟨v, h1, h2⟩ := h.get e2
      refine ⟨v, ?_, h2⟩
      unfold L2.start
      rw [List.getElem?_append_left (by simp; omega), List.getElem?_map, h1]; rfl
  · rw [List.getElem?_append_right (by simp; omega)] at e
    rw [List.getElem?_replicate] at e
    split at e <;> cases e
theorem runF_end {Γ : Pg} {G : GW} {f : Fd} {b : Calls → Sv} {C : Calls} {ds : List D} {m : List Addr} {F : Hp} {S : Store} {H : Hp} {E : XK} {Q : VK} (s : Sim G m F S H)
    (h : Run G (fun c d _ H' => E c d H') [] (relD G) (runF f b C ds) m F S Q) : RunS G (fun c d _ H' => E c d H') (b C (ds.map some ++ List.replicate (f.N.length - ds.length) none) S) m F { nx := fun _ H' => Q .non H', rt := Q } := by
  obtain ⟨r, q, h⟩ := h
  unfold runF at q
  split at q
  · cases eb : b C (ds.map some ++ List.replicate (f.N.length - ds.length) none) S with
    | none => rw [eb] at q; cases q
    | some rs =>
      rw [eb] at q
      refine ⟨rs, rfl, ?_⟩
      cases rs with
      | rt d S' =>
        cases q
        intro m' F' H' v e s' hv
        obtain ⟨m2, q1, q2, q3⟩ := dropR_ok s e s' hv
        exact h m2 F' H' v q1 q2 q3
      | nx ρ S' =>
        cases q
        intro m' F' H' σ' e s' _
        obtain ⟨m2, q1, q2, q3⟩ := dropR_ok (d := .non) (v := .non) s e s' rfl
        exact h m2 F' H' .non q1 q2 q3
      | ex x ρ S' =>
        cases q
        exact fun m' F' H' σ' d ws e s' _ hd h1 h2 => h m' F' H' d ws e s' hd h1 h2
      | bk _ _ => cases q
      | ct _ _ => cases q
  · cases q
/-- a def, one level up -/
theorem def_step {Γ : Pg} {bs : List (Calls → Sv)} {G : GW} {P : Program} {w : World} {mg : Str → Option Value} {base : Heap} (wf : WF Γ G mg) {k i : Nat} {f : Fd} {b : Calls → Sv} (hf : Γ.fns[i]? = some f) (hb : bs[i]? = some b)
    (ih : FnsOk Γ G P w mg base (callsAt Γ bs k).fn k) (ihp : (∀ c ds S, (callsAt Γ bs k).new c ds S = none) ∨ ∃ j fn, j + 1 ≤ k ∧ (callsAt Γ bs k).new = runMk Γ fn ∧ FnsOk Γ G P w mg base fn j)
    {name qual : Str} {params : Arguments} {body : List Stmt} {scope : Scope} {dV kV doc pm cdv ct oc : Value} {an od : Option Addr} {osl : Array (Option Value)}
    (lk : G.K.lookup (G.fnA i) = some ⟨oc, od, .func (PySem.W.fnOf name qual params body scope dV kV doc pm an cdv ct), osl⟩) (hcd : PySem.W.codeIn G.K cdv qual = true) (S : FnScope f.N f.ps scope)
    (hc : ∀ C, compB Γ C ⟨f.N, scope, true⟩ body = b C) :
    FnOk P w G.K mg base (L2.CX P w) (k + 1) (G.fnA i) (PySem.W.fnOf name qual params body scope dV kV doc pm an cdv ct) f.ps (spF G ((callsAt Γ bs (k + 1)).fn i) f.ps.length) := by
  refine fn_of (CX := L2.CX P w) lk hcd S (fun vs H Q E hsp => hsp.1) (fun A outer s H vs Q E hr hsp => ?_)
  obtain ⟨hl, m, F, S1, ds, s1, h1, hrun⟩ := hsp
  have hrun' : Run G (fun c d _ H' => E c d H') [] (relD G) (runF f b (callsAt Γ bs k) ds) m F S1 Q := by
    have : (callsAt Γ bs (k + 1)).fn i ds = runF f b (callsAt Γ bs k) ds := by
      show (match Γ.fns[i]?, bs[i]? with
        | some f, some b => runF f b (callsAt Γ bs k) ds
        | _, _ => .stuck) = _
      rw [hf, hb]
    rw [this] at hrun; exact hrun
  have hend := runF_end (Γ := Γ) s1 hrun'
  rw [← hc] at hend
  refine ⟨tS G (fun c d _ H' => E c d H') (compB Γ (callsAt Γ bs k) ⟨f.N, scope, true⟩ body), compB_ok (k := k) ⟨rfl, rfl, fun _ _ => rfl⟩ ⟨⟨⟨rfl, rfl, S.nd, hr, takes_of rfl rfl rfl rfl⟩, wf, ⟨ih, ihp⟩⟩, passes_of rfl, ?_⟩, m, F, _, S1, s1, start_rel h1, hend⟩
  show (if scope.kind.isAnnotationScope then ScopeKind.function else scope.kind) = .function
  rw [S.kind]; rfl
theorem binds_of {K : PySem.W.Frag} {fd : FuncData} {ps : List Str} (h : ∀ us : List Value, us.length = ps.length → bindArgs fd ⟨us, []⟩ = pure (ps.zip us)) : Binds K fd ps [] := .all h
/-- all the functions, at every level -/
theorem fns_ok {Γ : Pg} {bs : List (Calls → Sv)} {G : GW} {P : Program} {w : World} {mg : Str → Option Value} {base : Heap} (wf : WF Γ G mg) (hd : ∀ (i : Nat) f, Γ.fns[i]? = some f → ∃ b, bs[i]? = some b ∧ DefF Γ G i f b) :
    ∀ k, FnsOk Γ G P w mg base (callsAt Γ bs k).fn k ∧ ((∀ c ds S, (callsAt Γ bs k).new c ds S = none) ∨ ∃ j fn, j + 1 ≤ k ∧ (callsAt Γ bs k).new = runMk Γ fn ∧ FnsOk Γ G P w mg base fn j)
  | 0 => by
    refine ⟨fun i f hf => ?_, .inl fun _ _ _ => rfl⟩
    obtain ⟨b, hb, ⟨name, qual, params, body, scope, dV, kV, doc, pm, cdv, ct, oc, an, od, osl, lk, hcd, S, bi, hc⟩⟩ := hd i f hf
    refine ⟨_, ⟨fun vs H Q E hsp => hsp.1, fun A outer s H args us vs Q E hr e0 hb r hsp => ?_⟩, binds_of bi⟩
    obtain ⟨_, m, F, S, ds, s1, h1, hrun⟩ := hsp
    exact hrun.stuck.elim
  | k + 1 => by
    obtain ⟨ih, ihp⟩ := fns_ok (P := P) (w := w) (base := base) wf hd k
    refine ⟨fun i f hf => ?_, .inr ⟨k, (callsAt Γ bs k).fn, Nat.le_refl _, rfl, ih⟩⟩
    obtain ⟨b, hb, ⟨name, qual, params, body, scope, dV, kV, doc, pm, cdv, ct, oc, an, od, osl, lk, hcd, S, bi, hc⟩⟩ := hd i f hf
    exact ⟨_, def_step wf hf hb ih ihp lk hcd S hc, binds_of bi⟩
end MP

/-! MPU: the tables' facts by one Bool; the end of a law. -/
namespace MP
open PySem PySem.Spec PyProof.Rows L2

/-- the world by names -/
def gwOf (Γ : Pg) (fk : List (Str × Option Str)) (cn : List Str) (K : PySem.W.Frag) : GW where
  K := K
  fnA := fun i => match fk[i]? with
    | some p => He.fAd K p
    | none => 0
  clA := fun c => match cn[c]? with
    | some x => He.ga K x
    | none => 0
  fields := Γ.fields
def glB (fk : List (Str × Option Str)) (cn : List Str) (K : PySem.W.Frag) (p : Str × GB) : Bool := match p.2 with
  | .fn i => decide (fk[i]? = some (p.1, none)) && ((He.Fa.glo p.1).ok K && (He.Fa.keep p.1).ok K)
  | .cls c => decide (cn[c]? = some p.1) && (He.Fa.glo p.1).ok K
  | .int i => (He.Fa.int p.1 i).ok K
  | .free => (He.Fa.free p.1).ok K
def clB (fk : List (Str × Option Str)) (K : PySem.W.Frag) (cd : Cd) (x : Str) : Bool :=
  (He.Fa.cls x).ok K && ((cd.fields.all fun f => (He.Fa.noat x f).ok K) && ((match cd.init with
    | some i => decide (fk[i]? = some (x, some ("__init__" : Str))) && (He.Fa.mkr x).ok K
    | none => true) && ((cd.meths.all fun p => decide (fk[p.2]? = some (x, some p.1)) && ((He.Fa.meth x p.1).ok K && decide (p.1 ∉ cd.fields))) &&
    (He.eqO (PySem.W.findIn K (.ref (He.ga K x)) "__class__") (some (some (.builtin "object.__class__"))) && (decide (PySem.W.mroIn K (He.ga K x) (.type "object") = some true) &&
      (bTypes.all fun T => decide (PySem.W.kitOne K (.ref (He.ga K x)) (.type T) = some false) && decide (PySem.W.kitOne K (.type T) (.ref (He.ga K x)) = some false)))))))
def prB (K : PySem.W.Frag) (c c' : Nat) (x x' : Str) : Bool :=
  decide (PySem.W.kitOne K (.ref (He.ga K x)) (.ref (He.ga K x')) = some (c == c')) && (c == c' || decide (PySem.W.subIn K (.ref (He.ga K x')) (.ref (He.ga K x)) = some false))
def clsB (Γ : Pg) (fk : List (Str × Option Str)) (cn : List Str) (K : PySem.W.Frag) : Bool :=
  decide (cn.length = Γ.cls.length) && ((Γ.cls.zip cn).all fun p => clB fk K p.1 p.2) && (cn.zipIdx.all fun p => cn.zipIdx.all fun q => prB K p.2 q.2 p.1 q.1)
def wfB (Γ : Pg) (fk : List (Str × Option Str)) (cn : List Str) (K : PySem.W.Frag) : Bool :=
  (Γ.gl.all fun p => glB fk cn K p) && (clsB Γ fk cn K && (He.eqO (PySem.W.specialIn K (.builtin "object.__class__") "__get__") (some (some (.builtin "getset_descriptor.__get__"))) && decide (PySem.W.takesIn K (.builtin "object.__class__") = some true)))
section
variable {Γ : Pg} {fk : List (Str × Option Str)} {cn : List Str} {K : PySem.W.Frag} {h : Heap} {mg : Str → Option Value}
theorem fnA_eq {i : Nat} {p : Str × Option Str} (e : fk[i]? = some p) : (gwOf Γ fk cn K).fnA i = He.fAd K p := by
  show (match fk[i]? with
    | some p => He.fAd K p
    | none => 0) = _
  rw [e]
theorem clA_eq {c : Nat} {x : Str} (e : cn[c]? = some x) : (gwOf Γ fk cn K).clA c = He.ga K x := by
  show (match cn[c]? with
    | some x => He.ga K x
    | none => 0) = _
  rw [e]
theorem gl_at (hg : Γ.gl.all (fun p => glB fk cn K p) = true) {x : Str} {g : GB} (e : Γ.gl.lookup x = some g) : glB fk cn K (x, g) = true := List.all_eq_true.mp hg _ (PySem.mem_of_lookup e)
theorem cls_at (hc : clsB Γ fk cn K = true) {c : Nat} {cd : Cd} (e : Γ.cls[c]? = some cd) : ∃ x, cn[c]? = some x ∧ clB fk K cd x = true := by
  obtain ⟨h1, _⟩ := He.ba hc
  obtain ⟨h1, h2⟩ := He.ba h1
  have hl : cn.length = Γ.cls.length := of_decide_eq_true h1
  have hlt : c < cn.length := by rw [hl]; exact (List.getElem?_eq_some_iff.mp e).1
  refine ⟨cn[c], List.getElem?_eq_getElem hlt, ?_⟩
  have hm : (cd, cn[c]) ∈ Γ.cls.zip cn := by
    refine List.mem_of_getElem? (i := c) ?_
    rw [List.getElem?_zip_eq_some]
    exact ⟨e, List.getElem?_eq_getElem hlt⟩
  exact List.all_eq_true.mp h2 _ hm
theorem pr_at (hc : clsB Γ fk cn K = true) {c c' : Nat} {x x' : Str} (e : cn[c]? = some x) (e' : cn[c']? = some x') : prB K c c' x x' = true := by
  obtain ⟨_, h3⟩ := He.ba hc
  have mem : ∀ {c : Nat} {x : Str}, cn[c]? = some x → (x, c) ∈ cn.zipIdx := fun {c x} e => List.mem_of_getElem? (i := c) (by simp [List.getElem?_zipIdx, e])
  exact List.all_eq_true.mp (List.all_eq_true.mp h3 _ (mem e)) _ (mem e')
theorem wf_of (X : K.In h) (G : h.Ns mainGlobals mg) (w : wfB Γ fk cn K = true) : WF Γ (gwOf Γ fk cn K) mg := by
  obtain ⟨w1, w⟩ := He.ba w
  obtain ⟨w2, w⟩ := He.ba w
  obtain ⟨w3, w4⟩ := He.ba w
  refine ⟨rfl, fun x i e => ?_, fun x c e => ?_, fun x i e => ?_, fun x e => ?_, fun c cd e => ?_, fun c f hf => ?_, fun c cd i e hi => ?_, fun c cd e => ?_, ⟨He.eqO_ok w3, of_decide_eq_true w4⟩, fun c c' cd cd' e e' => ?_, fun c c' cd cd' e e' hne => ?_, fun c cd T e hT => ?_, fun c cd mt i e hm => ?_⟩
  · obtain ⟨g1, g2⟩ := He.ba (gl_at w1 e)
    obtain ⟨g2, g3⟩ := He.ba g2
    have e1 : fk[i]? = some (x, none) := of_decide_eq_true g1
    rw [fnA_eq e1]
    exact ⟨He.glo_ok X G g2, He.keep_ok g3⟩
  · obtain ⟨g1, g2⟩ := He.ba (gl_at w1 e)
    rw [clA_eq (of_decide_eq_true g1)]
    exact He.glo_ok X G g2
  · exact He.int_ok X G (gl_at w1 e)
  · exact He.free_ok X G (gl_at w1 e)
  · obtain ⟨x, e1, hc⟩ := cls_at w2 e
    rw [clA_eq e1]
    exact He.cls_ok (He.ba hc).1
  · have hcd : ∃ cd, Γ.cls[c]? = some cd ∧ f ∈ cd.fields := by
      unfold Pg.fields at hf
      split at hf
      · rename_i cd hcd; exact ⟨cd, hcd, hf⟩
      · cases hf
    obtain ⟨cd, e, hf⟩ := hcd
    obtain ⟨x, e1, hc⟩ := cls_at w2 e
    rw [clA_eq e1]
    obtain ⟨_, hc⟩ := He.ba hc
    exact He.noat_ok (List.all_eq_true.mp (He.ba hc).1 f hf)
  · obtain ⟨x, e1, hc⟩ := cls_at w2 e
    obtain ⟨_, hc⟩ := He.ba hc
    obtain ⟨_, hc⟩ := He.ba hc
    obtain ⟨hc, _⟩ := He.ba hc
    rw [hi] at hc
    obtain ⟨c1, c2⟩ := He.ba hc
    rw [clA_eq e1, fnA_eq (of_decide_eq_true c1)]
    exact He.mkr_ok c2
  · obtain ⟨x, e1, hc⟩ := cls_at w2 e
    obtain ⟨_, hc⟩ := He.ba hc
    obtain ⟨_, hc⟩ := He.ba hc
    obtain ⟨_, hc⟩ := He.ba hc
    obtain ⟨_, hc⟩ := He.ba hc
    obtain ⟨c1, hc⟩ := He.ba hc
    obtain ⟨c2, _⟩ := He.ba hc
    rw [clA_eq e1]
    exact ⟨He.eqO_ok c1, of_decide_eq_true c2⟩
  · obtain ⟨x, e1, _⟩ := cls_at w2 e
    obtain ⟨x', e1', _⟩ := cls_at w2 e'
    rw [clA_eq e1, clA_eq e1']
    exact of_decide_eq_true (He.ba (pr_at w2 e1 e1')).1
  · obtain ⟨x, e1, _⟩ := cls_at w2 e
    obtain ⟨x', e1', _⟩ := cls_at w2 e'
    rw [clA_eq e1, clA_eq e1']
    have := (He.ba (pr_at w2 e1 e1')).2
    rcases Bool.or_eq_true_iff.mp this with z | z
    · exact absurd (beq_iff_eq.mp z) hne
    · exact of_decide_eq_true z
  · obtain ⟨x, e1, hc⟩ := cls_at w2 e
    obtain ⟨_, hc⟩ := He.ba hc
    obtain ⟨_, hc⟩ := He.ba hc
    obtain ⟨_, hc⟩ := He.ba hc
    obtain ⟨_, hc⟩ := He.ba hc
    obtain ⟨_, hc⟩ := He.ba hc
    obtain ⟨_, hc⟩ := He.ba hc
    obtain ⟨c1, c2⟩ := He.ba (List.all_eq_true.mp hc T hT)
    rw [clA_eq e1]
    exact ⟨of_decide_eq_true c1, of_decide_eq_true c2⟩
  · obtain ⟨x, e1, hc⟩ := cls_at w2 e
    obtain ⟨_, hc⟩ := He.ba hc
    obtain ⟨_, hc⟩ := He.ba hc
    obtain ⟨_, hc⟩ := He.ba hc
    obtain ⟨hc, _⟩ := He.ba hc
    obtain ⟨c1, c2⟩ := He.ba (List.all_eq_true.mp hc _ (PySem.mem_of_lookup hm))
    obtain ⟨c2, c3⟩ := He.ba c2
    rw [clA_eq e1, fnA_eq (of_decide_eq_true c1)]
    exact ⟨He.meth_ok c2, of_decide_eq_true c3⟩
/-- a def of the row, by its datum -/
theorem defF_of {d : He.DefD} {i : Nat} {f : Fd} {b : Calls → Sv} (e : fk[i]? = some d.at_) (F : ∃ fd, FunD K d.name d.qual d.params d.body d.scope (d.dvs K) (d.kws K) (He.fAd K d.at_) fd) (hd : d.dfl = []) (hk : d.kwd = [])
    (S : FnScope f.N f.ps d.scope) (hb : ∀ (kV doc pm : Value) (an : Option Addr) (cdv ct : Value) (us : List Value), us.length = f.ps.length → bindArgs (PySem.W.fnOf d.name d.qual d.params d.body d.scope .none kV doc pm an cdv ct) ⟨us, []⟩ = pure (f.ps.zip us))
    (hc : ∀ C, compB Γ C ⟨f.N, d.scope, true⟩ d.body = b C) : DefF Γ (gwOf Γ fk cn K) i f b := by
  obtain ⟨fd, F⟩ := F
  have F' : FunD K d.name d.qual d.params d.body d.scope [] [] (He.fAd K d.at_) fd := by
    have e1 : d.dvs K = [] := by unfold He.DefD.dvs; rw [hd]; rfl
    have e2 : d.kws K = [] := by unfold He.DefD.kws; rw [hk]; rfl
    rw [e1, e2] at F; exact F
  obtain ⟨oc, od, dV, kV, doc, pm, an, cdv, ct, osl, rfl, lk, hcd, hD, _⟩ := F'.ex
  have hD : dV = .none := by
    rcases hD with ⟨e, _⟩ | ⟨e, _⟩
    · first | exact e | (rename_i q; exact q)
    · exact absurd rfl e
  subst hD
  refine ⟨⟨d.name, d.qual, d.params, d.body, d.scope, .none, kV, doc, pm, cdv, ct, oc, an, od, osl, ?_, hcd, S, hb kV doc pm an cdv ct, hc⟩⟩
  rw [fnA_eq e]
  exact lk
end
theorem noexc {P : Program} {w : World} (H : Hp) (s : Shared) (e : Value) (s' : Shared) (h : L2.CX P w [] H s (fun _ _ _ => False) e s') : False := by
  obtain ⟨_, _, _, _, _, _, _, _, _, _, _, _, z⟩ := h
  exact z
/-- the law's end: the interpreter's call of the law gives True -/
theorem walk_ofM {l : PySem.W.OpenLaw} {n k : Nat} {q : Program} {loose : List Str} {XP : (Str → Option Value) → Heap → Prop} {YP : World → Heap → Prop} {d : DefRec} {x : Str} {Γ : Pg} {bs : List (Calls → Sv)} {f : Fd} {iL : Nat}
    (hn : l.most = some n) (hn2 : n ≤ sizeLine) (hdf : d.params.defaults = []) (hr : Room (k + 1) callerA) (hf : Γ.fns[iL]? = some f) (hps : f.ps = [x])
    (F : ∀ (w : World) (mg : Str → Option Value) (fa : Addr) (h : Heap), YP w h → h.Ns mainGlobals mg → mg d.name = some (.ref fa) →
      ∃ G : GW, G.K.In h ∧ G.fnA iL = fa ∧ (∀ base, G.K.In base → base.Ns mainGlobals mg → WF Γ G mg) ∧ ∀ i f, Γ.fns[i]? = some f → ∃ b, bs[i]? = some b ∧ DefF Γ G i f b)
    (hL : ∀ ns : List Int, ns.length ≤ n → (∀ z ∈ ns, Builtin.Int.intBits z ≤ 1048576) → ∃ S', (callsAt Γ bs (k + 1)).fn iL [.flst (ns.map .int)] [] = some (.ok (.bl true) S')) :
    PySem.W.WalkO q loose XP YP l.row.toRowW d [] (fun f vs => PySem.call f vs) := by
  refine Att.attach_callB hn hdf fun w s₀ s₁ mg mb fa o pm cd doc a vs ns G Y ho hd hcd hmg hobj hints hlen hbits hg => ?_
  obtain ⟨GG, KX, rfl, wf, hds⟩ := F w mg fa _ Y G.T.g hmg
  obtain ⟨b, hb, ⟨name, qual, params, body, scope, dV, kV, doc', pm', cdv, ct, oc, an, od, osl, lk, hcd', S, bi, hc⟩⟩ := hds iL f hf
  refine law_call (x := x) (fd := PySem.W.fnOf name qual params body scope dV kV doc' pm' an cdv ct) (CX := L2.CX l.prog w) (k := k + 1) (sp := spF GG ((callsAt Γ bs (k + 1)).fn iL) f.ps.length) KX G.T.g G.T.b G.T.builtins G.T.nolimit hg hobj hints (Nat.le_trans hlen hn2) hr (fun base hb1 hm => ?_) (fun s u => ?_) (fun H hO hS => ?_) fun H e s' z => noexc H s₁ e s' z
  · obtain ⟨ih, ihp⟩ := fns_ok (P := l.prog) (w := w) (base := base) (wf base hb1 hm) hds k
    have := def_step (P := l.prog) (w := w) (base := base) (wf base hb1 hm) hf hb ih ihp lk hcd' S hc
    rw [hps] at this ⊢
    exact this
  · have := bi [u] (by rw [hps]; rfl)
    rw [hps] at this
    exact .of_eq this
  · obtain ⟨S', e⟩ := hL ns hlen hbits
    refine ⟨by rw [hps]; rfl, [], H, [], [.flst (ns.map .int)], ⟨fun _ _ h => h, List.nodup_nil, rfl, fun _ z => (by cases z), fun _ _ _ z => (by simp at z)⟩, relDs.cons ⟨a, ns.map V.int, rfl, hS, ?_⟩ relDs.nil, _, e, ?_⟩
    · refine relDs.of_get (by simp) fun i d v h1 h2 => ?_
      rw [List.getElem?_map] at h1 h2
      cases e1 : ns[i]? with
      | none => rw [e1] at h1; cases h1
      | some z =>
        rw [e1] at h1 h2
        cases h1; cases h2
        rfl
    · exact fun m' F' H' v _ _ hv => hv
end MP

/-! MPW: reasoning about the interpreter: it ends, and then Q. -/
namespace MP
open PySem PySem.Spec PyProof.Rows L2

def PM {α : Type} (x : M α) (S : Store) (Q : α → Store → Prop) : Prop := ∃ a S', x S = some (.ok a S') ∧ Q a S'
/-- no exception -/
def RS.calm : RS → Prop
  | .ex _ _ _ => False
  | _ => True
def PZ (f : Sv) (ρ : En) (S : Store) (Q : RS → Prop) : Prop := ∃ r, f ρ S = some r ∧ r.calm ∧ Q r
section
variable {α β : Type} {S : Store} {ρ : En}
theorem PM.imp {x : M α} {Q Q' : α → Store → Prop} (h : PM x S Q) (q : ∀ a S, Q a S → Q' a S) : PM x S Q' := let ⟨a, S', e, h⟩ := h; ⟨a, S', e, q _ _ h⟩
theorem PZ.imp {f : Sv} {Q Q' : RS → Prop} (h : PZ f ρ S Q) (q : ∀ r, Q r → Q' r) : PZ f ρ S Q' := let ⟨r, e, c, h⟩ := h; ⟨r, e, c, q _ h⟩
theorem PM_of {x : M α} {Q : α → Store → Prop} {a : α} {S' : Store} (e : x S = some (.ok a S')) : PM x S Q ↔ Q a S' := ⟨fun ⟨a', S2, e2, h⟩ => by rw [e] at e2; cases e2; exact h, fun h => ⟨a, S', e, h⟩⟩
theorem PM_ret {Q : α → Store → Prop} {a : α} : PM (M.ret a) S Q ↔ Q a S := PM_of rfl
theorem PM_some {Q : α → Store → Prop} {a : α} {S' : Store} : PM (fun S => some (.ok a S')) S Q ↔ Q a S' := PM_of rfl
theorem PM_stuck {Q : α → Store → Prop} : PM (M.stuck : M α) S Q ↔ False := ⟨fun ⟨_, _, e, _⟩ => (by cases e), fun h => False.elim h⟩
theorem PM_none {Q : α → Store → Prop} : PM (fun _ => none : M α) S Q ↔ False := ⟨fun ⟨_, _, e, _⟩ => (by cases e), fun h => False.elim h⟩
theorem PM_bind {x : M α} {f : α → M β} {Q : β → Store → Prop} : PM (M.bind x f) S Q ↔ PM x S fun a S' => PM (f a) S' Q := by
  constructor
  · rintro ⟨b, S', e, h⟩
    unfold M.bind at e
    cases ex : x S with
    | none => rw [ex] at e; cases e
    | some r =>
      rw [ex] at e
      cases r with
      | ok a S1 => exact ⟨a, S1, ex, b, S', e, h⟩
      | ex _ _ => cases e
  · rintro ⟨a, S1, ex, b, S', e, h⟩
    exact ⟨b, S', by unfold M.bind; rw [ex]; exact e, h⟩
theorem PM_guard {p : Prop} [Decidable p] {x : M α} {Q : α → Store → Prop} : PM (M.guard p x) S Q ↔ p ∧ PM x S Q := by
  unfold M.guard
  split
  · rename_i h; exact ⟨fun z => ⟨h, z⟩, fun z => z.2⟩
  · rename_i h; exact ⟨fun z => (PM_stuck.mp z).elim, fun z => absurd z.1 h⟩
theorem PM_if {p : Prop} [Decidable p] {x : M α} {Q : α → Store → Prop} : PM (fun S => if p then x S else none) S Q ↔ p ∧ PM x S Q := by
  unfold PM
  by_cases h : p
  · simp only [h, if_true, true_and]
  · simp only [h, if_false, false_and]
    exact ⟨fun ⟨_, _, e, _⟩ => (by cases e), fun z => False.elim z⟩
theorem PM_ite {p : Prop} [Decidable p] {x y : M α} {Q : α → Store → Prop} : PM (if p then x else y) S Q ↔ (p → PM x S Q) ∧ (¬ p → PM y S Q) := by
  by_cases h : p
  · simp [h]
  · simp [h]
theorem PM_optM {o : Option α} {Q : α → Store → Prop} : PM (optM o) S Q ↔ ∃ a, o = some a ∧ Q a S := by
  cases o with
  | none => exact ⟨fun z => (PM_stuck.mp z).elim, fun ⟨_, e, _⟩ => (by cases e)⟩
  | some a => exact ⟨fun z => ⟨a, rfl, PM_ret.mp z⟩, fun ⟨_, e, z⟩ => (by cases e; exact PM_ret.mpr z)⟩
/-! expressions -/
theorem PM_slot {i : Nat} {d : D} {Q : D → Store → Prop} (h : ρ[i]? = some (some d)) : PM (eSlot i ρ) S Q ↔ Q d S := by
  unfold eSlot; rw [h]; exact PM_ret
theorem PM_slot' {i : Nat} {Q : D → Store → Prop} : PM (eSlot i ρ) S Q ↔ ∃ d, ρ[i]? = some (some d) ∧ Q d S := by
  unfold eSlot
  constructor
  · intro h
    split at h
    · rename_i d hd; exact ⟨d, hd, PM_ret.mp h⟩
    · exact (PM_stuck.mp h).elim
  · rintro ⟨d, hd, h⟩
    rw [hd]; exact PM_ret.mpr h
theorem PM_eC {d : D} {Q : D → Store → Prop} : PM (eC d ρ) S Q ↔ Q d S := PM_ret
theorem PM_eOp {o : D → D → M D} {a b : Ev} {Q : D → Store → Prop} : PM (eOp o a b ρ) S Q ↔ PM (a ρ) S fun x S1 => PM (b ρ) S1 fun y S2 => PM (o x y) S2 Q := by
  unfold eOp; simp only [PM_bind]
theorem PM_eUn {o : D → M D} {a : Ev} {Q : D → Store → Prop} : PM (eUn o a ρ) S Q ↔ PM (a ρ) S fun x S1 => PM (o x) S1 Q := by
  unfold eUn; simp only [PM_bind]
theorem PM_eT {t : Tv} {Q : D → Store → Prop} : PM (eT t ρ) S Q ↔ PM (t ρ) S fun k S1 => Q (.bl k) S1 := by
  unfold eT; simp only [PM_bind, PM_ret]
theorem PM_tV {e : Ev} {Q : Bool → Store → Prop} : PM (tV e ρ) S Q ↔ PM (e ρ) S fun d S1 => PM (truth d) S1 Q := by
  unfold tV; simp only [PM_bind]
theorem PM_eAnd {a b : Ev} {Q : D → Store → Prop} : PM (eAnd a b ρ) S Q ↔ PM (a ρ) S fun x S1 => PM (truth x) S1 fun k S2 => if k then PM (b ρ) S2 Q else Q x S2 := by
  unfold eAnd
  simp only [PM_bind]
  constructor <;> intro h <;> refine h.imp fun x S1 h => h.imp fun k S2 h => ?_
  · cases k
    · exact PM_ret.mp h
    · exact h
  · cases k
    · exact PM_ret.mpr h
    · exact h
theorem PM_eOr {a b : Ev} {Q : D → Store → Prop} : PM (eOr a b ρ) S Q ↔ PM (a ρ) S fun x S1 => PM (truth x) S1 fun k S2 => if k then Q x S2 else PM (b ρ) S2 Q := by
  unfold eOr
  simp only [PM_bind]
  constructor <;> intro h <;> refine h.imp fun x S1 h => h.imp fun k S2 h => ?_
  · cases k
    · exact h
    · exact PM_ret.mp h
  · cases k
    · exact h
    · exact PM_ret.mpr h
theorem PM_tAnd {a b : Tv} {Q : Bool → Store → Prop} : PM (tAnd a b ρ) S Q ↔ PM (a ρ) S fun k S1 => if k then PM (b ρ) S1 Q else Q false S1 := by
  unfold tAnd
  simp only [PM_bind]
  constructor <;> intro h <;> refine h.imp fun k S2 h => ?_
  · cases k
    · exact PM_ret.mp h
    · exact h
  · cases k
    · exact PM_ret.mpr h
    · exact h
theorem PM_tOr {a b : Tv} {Q : Bool → Store → Prop} : PM (tOr a b ρ) S Q ↔ PM (a ρ) S fun k S1 => if k then Q true S1 else PM (b ρ) S1 Q := by
  unfold tOr
  simp only [PM_bind]
  constructor <;> intro h <;> refine h.imp fun k S2 h => ?_
  · cases k
    · exact h
    · exact PM_ret.mp h
  · cases k
    · exact h
    · exact PM_ret.mpr h
theorem PM_tNot {a : Tv} {Q : Bool → Store → Prop} : PM (tNot a ρ) S Q ↔ PM (a ρ) S fun k S1 => Q (!k) S1 := by
  unfold tNot; simp only [PM_bind, PM_ret]
theorem PM_eIf {t : Tv} {a b : Ev} {Q : D → Store → Prop} : PM (eIf t a b ρ) S Q ↔ PM (t ρ) S fun k S1 => if k then PM (a ρ) S1 Q else PM (b ρ) S1 Q := by
  unfold eIf
  simp only [PM_bind]
  constructor <;> intro h <;> refine h.imp fun k S2 h => ?_ <;> cases k <;> exact h
theorem PM_tIf {t : Tv} {a b : Tv} {Q : Bool → Store → Prop} : PM (tIf t a b ρ) S Q ↔ PM (t ρ) S fun k S1 => if k then PM (a ρ) S1 Q else PM (b ρ) S1 Q := by
  unfold tIf
  simp only [PM_bind]
  constructor <;> intro h <;> refine h.imp fun k S2 h => ?_ <;> cases k <;> exact h
theorem PM_tCmp {c : D → D → M Bool} {a b : Ev} {Q : Bool → Store → Prop} : PM (tCmp c a b ρ) S Q ↔ PM (a ρ) S fun x S1 => PM (b ρ) S1 fun y S2 => PM (c x y) S2 Q := by
  unfold tCmp; simp only [PM_bind]
theorem PM_tChn {a : Ev} {r : Chn} {Q : Bool → Store → Prop} : PM (tChn a r ρ) S Q ↔ PM (a ρ) S fun x S1 => PM (r.run x ρ) S1 Q := by
  unfold tChn; simp only [PM_bind]
theorem PM_last {c : D → D → M Bool} {b : Ev} {x : D} {Q : Bool → Store → Prop} : PM (Chn.run x ρ (.last c b)) S Q ↔ PM (b ρ) S fun y S2 => PM (c x y) S2 Q := by
  unfold Chn.run; simp only [PM_bind]
theorem PM_more {c : D → D → M Bool} {b : Ev} {r : Chn} {x : D} {Q : Bool → Store → Prop} : PM (Chn.run x ρ (.more c b r)) S Q ↔ PM (b ρ) S fun y S2 => PM (c x y) S2 fun k S3 => if k then PM (r.run y ρ) S3 Q else Q false S3 := by
  conv => lhs; unfold Chn.run
  simp only [PM_bind]
  constructor <;> intro h <;> refine h.imp fun y S2 h => h.imp fun k S3 h => ?_
  · cases k
    · exact PM_ret.mp h
    · exact h
  · cases k
    · exact PM_ret.mpr h
    · exact h
theorem PM_aNil {Q : List D → Store → Prop} : PM (aNil ρ) S Q ↔ Q [] S := PM_ret
theorem PM_aCons {a : Ev} {r : Av} {Q : List D → Store → Prop} : PM (aCons a r ρ) S Q ↔ PM (a ρ) S fun x S1 => PM (r ρ) S1 fun xs S2 => Q (x :: xs) S2 := by
  unfold aCons; simp only [PM_bind, PM_ret]
theorem PM_eTup {a : Av} {Q : D → Store → Prop} : PM (eTup a ρ) S Q ↔ PM (a ρ) S fun xs S1 => xs.length ≤ sizeLine ∧ Q (.tup xs) S1 := by
  unfold eTup; simp only [PM_bind, PM_guard, PM_ret]
theorem PM_newL {xs : List D} {Q : D → Store → Prop} : PM (newL xs) S Q ↔ Q (.ref S.length) (S ++ [.lst xs]) := PM_of rfl
theorem PM_eLst {a : Av} {Q : D → Store → Prop} : PM (eLst a ρ) S Q ↔ PM (a ρ) S fun xs S1 => xs.length ≤ sizeLine ∧ Q (.ref S1.length) (S1 ++ [.lst xs]) := by
  unfold eLst; simp only [PM_bind, PM_guard, PM_newL]
theorem PM_eCall {C : Calls} {i n : Nat} {a : Av} {Q : D → Store → Prop} : PM (eCall C i n a ρ) S Q ↔ PM (a ρ) S fun ds S1 => ds.length = n ∧ PM (C.fn i ds) S1 Q := by
  unfold eCall; simp only [PM_bind, PM_guard]
theorem PM_eNew {C : Calls} {i n : Nat} {a : Av} {Q : D → Store → Prop} : PM (eNew C i n a ρ) S Q ↔ PM (a ρ) S fun ds S1 => ds.length = n ∧ PM (C.new i ds) S1 Q := by
  unfold eNew; simp only [PM_bind, PM_guard]
theorem PM_eDrop {f : Ev} {Q : D → Store → Prop} : PM (eDrop f ρ) S Q ↔ PM (f ρ) S fun d S' => Q d (dropR S d S') := by
  unfold PM eDrop
  constructor
  · rintro ⟨a, S', e, h⟩
    split at e
    · rename_i d S1 h1; cases e; exact ⟨_, _, h1, h⟩
    · rename_i hn; exact (hn _ _ e).elim
  · rintro ⟨a, S', e, h⟩
    exact ⟨a, _, by rw [e], h⟩
theorem PM_getL {r : Nat} {xs : List D} {Q : List D → Store → Prop} (h : S[r]? = some (.lst xs)) : PM (getL r) S Q ↔ Q xs S := PM_of (by unfold getL; rw [h])
/-! statements -/
theorem PZ_of {f : Sv} {Q : RS → Prop} {r : RS} (e : f ρ S = some r) (c : r.calm) : PZ f ρ S Q ↔ Q r := ⟨fun ⟨r', e2, _, h⟩ => by rw [e] at e2; cases e2; exact h, fun h => ⟨r, e, c, h⟩⟩
theorem PZ_bind {x : En → M α} {k : α → Sv} {Q : RS → Prop} : PZ (sBind x k) ρ S Q ↔ PM (x ρ) S fun a S' => PZ (k a) ρ S' Q := by
  constructor
  · rintro ⟨r, e, c, h⟩
    unfold sBind at e
    cases ex : x ρ S with
    | none => rw [ex] at e; cases e
    | some r1 =>
      rw [ex] at e
      cases r1 with
      | ok a S' => exact ⟨a, S', ex, r, e, c, h⟩
      | ex _ _ => cases e; exact c.elim
  · rintro ⟨a, S', e, r, e2, c, h⟩
    exact ⟨r, by unfold sBind; rw [e]; exact e2, c, h⟩
theorem PZ_nx {Q : RS → Prop} : PZ sNx ρ S Q ↔ Q (.nx ρ S) := PZ_of rfl trivial
theorem PZ_bk {Q : RS → Prop} : PZ sBk ρ S Q ↔ Q (.bk ρ S) := PZ_of rfl trivial
theorem PZ_ct {Q : RS → Prop} : PZ sCt ρ S Q ↔ Q (.ct ρ S) := PZ_of rfl trivial
theorem PZ_rt {d : D} {Q : RS → Prop} : PZ (sRt d) ρ S Q ↔ Q (.rt d S) := PZ_of rfl trivial
/-- behind a statement -/
def SQ (P : En → Store → Prop) (Q : RS → Prop) : RS → Prop
  | .nx ρ S => P ρ S
  | .ct ρ S => Q (.ct ρ S)
  | .bk ρ S => Q (.bk ρ S)
  | .rt d S => Q (.rt d S)
  | .ex e ρ S => Q (.ex e ρ S)
theorem SQ_nx {P : En → Store → Prop} {Q : RS → Prop} : SQ P Q (.nx ρ S) = P ρ S := rfl
theorem SQ_rt {P : En → Store → Prop} {Q : RS → Prop} {d : D} : SQ P Q (.rt d S) = Q (.rt d S) := rfl
theorem SQ_ct {P : En → Store → Prop} {Q : RS → Prop} : SQ P Q (.ct ρ S) = Q (.ct ρ S) := rfl
theorem SQ_bk {P : En → Store → Prop} {Q : RS → Prop} : SQ P Q (.bk ρ S) = Q (.bk ρ S) := rfl
theorem PZ_seq {f g : Sv} {Q : RS → Prop} : PZ (sSeq f g) ρ S Q ↔ PZ f ρ S (SQ (fun ρ' S' => PZ g ρ' S' Q) Q) := by
  constructor
  · rintro ⟨r, e, c, h⟩
    unfold sSeq at e
    cases ef : f ρ S with
    | none => rw [ef] at e; cases e
    | some r1 =>
      rw [ef] at e
      cases r1 with
      | nx ρ' S' => exact ⟨_, ef, trivial, r, e, c, h⟩
      | rt d S' => cases e; exact ⟨_, ef, c, h⟩
      | bk _ _ => cases e; exact ⟨_, ef, c, h⟩
      | ct _ _ => cases e; exact ⟨_, ef, c, h⟩
      | ex _ _ _ => cases e; exact c.elim
  · rintro ⟨r, e, c, h⟩
    cases r with
    | nx ρ' S' =>
      obtain ⟨r2, e2, c2, h⟩ := h
      exact ⟨r2, by unfold sSeq; rw [e]; exact e2, c2, h⟩
    | rt d S' => exact ⟨_, by unfold sSeq; rw [e], c, h⟩
    | bk _ _ => exact ⟨_, by unfold sSeq; rw [e], c, h⟩
    | ct _ _ => exact ⟨_, by unfold sSeq; rw [e], c, h⟩
    | ex _ _ _ => exact c.elim
theorem PZ_ret {e : Ev} {Q : RS → Prop} : PZ (sRet e) ρ S Q ↔ PM (e ρ) S fun d S' => Q (.rt d S') := by
  unfold sRet; simp only [PZ_bind, PZ_rt]
theorem PZ_drop {e : Ev} {Q : RS → Prop} : PZ (sDrop e) ρ S Q ↔ PM (e ρ) S fun _ S' => Q (.nx ρ S') := by
  unfold sDrop; simp only [PZ_bind, PZ_nx]
theorem PZ_if {t : Tv} {f g : Sv} {Q : RS → Prop} : PZ (sIf t f g) ρ S Q ↔ PM (t ρ) S fun b S' => if b then PZ f ρ S' Q else PZ g ρ S' Q := by
  unfold sIf
  simp only [PZ_bind]
  constructor <;> intro h <;> refine h.imp fun b S' q => ?_ <;> cases b <;> exact q
theorem PZ_asg {g : Gv} {e : Ev} {Q : RS → Prop} : PZ (sAsg g e) ρ S Q ↔ PM (e ρ) S fun d S' => PZ (g d) ρ S' Q := PZ_bind
theorem PZ_one {i : Nat} {d : D} {Q : RS → Prop} : PZ (gOne i d) ρ S Q ↔ Q (.nx (ρ.set i (some d)) S) := PZ_of rfl trivial
theorem PZ_par {is : List Nat} {a : Av} {Q : RS → Prop} : PZ (sPar is a) ρ S Q ↔ PM (a ρ) S fun ds S' => ds.length = is.length ∧ Q (.nx (setAll ρ is ds) S') := by
  unfold sPar
  rw [PZ_bind]
  have key : ∀ (ds : List D) S', PZ (optS fun ρ => if ds.length = is.length then some (setAll ρ is ds) else none) ρ S' Q ↔ ds.length = is.length ∧ Q (.nx (setAll ρ is ds) S') := fun ds S' => by
    by_cases hl : ds.length = is.length
    · rw [PZ_of (r := .nx (setAll ρ is ds) S') (by unfold optS; simp only [hl, if_true]) trivial]
      simp [hl]
    · constructor
      · rintro ⟨r, e, _⟩
        unfold optS at e
        simp only [hl, if_false] at e
        cases e
      · rintro ⟨h, _⟩; exact absurd h hl
  constructor <;> intro h <;> refine h.imp fun ds S' q => ?_
  · exact (key _ _).mp q
  · exact (key _ _).mpr q
theorem PZ_allN {Q : RS → Prop} : PZ (gAll [] []) ρ S Q ↔ Q (.nx ρ S) := PZ_of rfl trivial
theorem PZ_allC {g : Gv} {gs : List Gv} {d : D} {ds : List D} {Q : RS → Prop} : PZ (gAll (g :: gs) (d :: ds)) ρ S Q ↔ PZ (g d) ρ S (SQ (fun ρ' S' => PZ (gAll gs ds) ρ' S' Q) Q) := PZ_seq
theorem PZ_tup {gs : List Gv} {ds : List D} {Q : RS → Prop} (hl : ds.length = gs.length) : PZ (gTupG gs (.tup ds)) ρ S Q ↔ PZ (gAll gs ds) ρ S Q := by
  unfold gTupG
  simp only [hl, if_true]
theorem PZ_sub {o i : Ev} {d : D} {Q : RS → Prop} : PZ (gSubS o i d) ρ S Q ↔ PM (o ρ) S fun x S1 => PM (i ρ) S1 fun y S2 => PM (oPut x y d) S2 fun _ S3 => Q (.nx ρ S3) := by
  unfold gSubS; simp only [PZ_bind, PZ_nx]
theorem PZ_fld {Γ : Pg} {f : Str} {o : Ev} {d : D} {Q : RS → Prop} : PZ (gFldS Γ f o d) ρ S Q ↔ PM (o ρ) S fun x S1 => PM (oPutF Γ f x d) S1 fun _ S2 => Q (.nx ρ S2) := by
  unfold gFldS; simp only [PZ_bind, PZ_nx]
/-- a turn -/
def TQ (P : En → Store → Prop) (Q : RS → Prop) : RS → Prop
  | .nx ρ S => P ρ S
  | .ct ρ S => P ρ S
  | .bk ρ S => Q (.nx ρ S)
  | .rt d S => Q (.rt d S)
  | .ex e ρ S => Q (.ex e ρ S)
theorem TQ_nx {P : En → Store → Prop} {Q : RS → Prop} : TQ P Q (.nx ρ S) = P ρ S := rfl
theorem TQ_ct {P : En → Store → Prop} {Q : RS → Prop} : TQ P Q (.ct ρ S) = P ρ S := rfl
theorem TQ_bk {P : En → Store → Prop} {Q : RS → Prop} : TQ P Q (.bk ρ S) = Q (.nx ρ S) := rfl
theorem TQ_rt {P : En → Store → Prop} {Q : RS → Prop} {d : D} : TQ P Q (.rt d S) = Q (.rt d S) := rfl
theorem PZ_turn {b k : Sv} {Q : RS → Prop} (h : PZ b ρ S (TQ (fun ρ' S' => PZ k ρ' S' Q) Q)) : PZ (turnS b k) ρ S Q := by
  obtain ⟨r, e, c, h⟩ := h
  cases r with
  | nx ρ' S' => obtain ⟨r2, e2, c2, h⟩ := h; exact ⟨r2, by unfold turnS; rw [e]; exact e2, c2, h⟩
  | ct ρ' S' => obtain ⟨r2, e2, c2, h⟩ := h; exact ⟨r2, by unfold turnS; rw [e]; exact e2, c2, h⟩
  | rt d S' => exact ⟨_, by unfold turnS; rw [e], c, h⟩
  | bk ρ2 S2 => exact ⟨.nx ρ2 S2, by unfold turnS; rw [e], trivial, h⟩
  | ex _ _ _ => exact c.elim
theorem PZ_while {t : Tv} {b : Sv} {Q : RS → Prop} (h : PM (t ρ) S fun c S' => if c then PZ b ρ S' (TQ (fun ρ' S' => PZ (sWhile t b) ρ' S' Q) Q) else Q (.nx ρ S')) : PZ (sWhile t b) ρ S Q := by
  have h2 : PZ (sBind t fun c => if c then turnS b (sWhile t b) else sNx) ρ S Q := PZ_bind.mpr (h.imp fun c S' q => by
    cases c with
    | true => exact PZ_turn q
    | false => exact PZ_nx.mpr q)
  obtain ⟨r, e, c, h2⟩ := h2
  exact ⟨r, sWhile_step e, c, h2⟩
theorem PZ_for {it : Iv} {tg : Tg} {b : Sv} {Q : RS → Prop} : PZ (sFor it tg b) ρ S Q ↔ PM (it ρ) S fun itm S' => PZ (forGo itm.src tg b itm.items) ρ S' Q := PZ_bind
/-- a for's invariant -/
theorem PZ_go {src : Src} {tg : Tg} {b : Sv} {Q : RS → Prop} {items : List D} (I : Nat → En → Store → Prop) (h0 : I 0 ρ S)
    (hs : ∀ j d ρ S, items[j]? = some d → I j ρ S → src.ok S ∧ ∃ ρ1, tg.asg d ρ = some ρ1 ∧ PZ b ρ1 S (TQ (I (j + 1)) Q)) (hd : ∀ ρ S, I items.length ρ S → src.ok S ∧ Q (.nx ρ S)) : PZ (forGo src tg b items) ρ S Q := by
  induction items generalizing ρ S I with
  | nil =>
    obtain ⟨h1, h2⟩ := hd ρ S h0
    exact ⟨.nx ρ S, by unfold forGo; rw [if_pos h1], trivial, h2⟩
  | cons d ds ih =>
    obtain ⟨h1, ρ1, h2, h3⟩ := hs 0 d ρ S rfl h0
    have h4 : PZ (turnS b (forGo src tg b ds)) ρ1 S Q := PZ_turn (h3.imp fun r q => by
      have go : ∀ ρ' S', I 1 ρ' S' → PZ (forGo src tg b ds) ρ' S' Q := fun ρ' S' q => ih (fun j => I (j + 1)) q (fun j d' ρ S hj hI => hs (j + 1) d' ρ S (by simpa using hj) hI) (fun ρ S hI => hd ρ S (by simpa using hI))
      cases r with
      | nx ρ' S' => exact go _ _ q
      | ct ρ' S' => exact go _ _ q
      | rt _ _ => exact q
      | bk _ _ => exact q
      | ex _ _ _ => exact q)
    obtain ⟨r, e, c, h4⟩ := h4
    refine ⟨r, ?_, c, h4⟩
    unfold forGo
    rw [if_pos h1]
    unfold sSeq optS
    rw [h2]
    exact e
/-- a comprehension: what each item gives -/
theorem PM_comp {own : List Nat} {it : Iv} {tg : Tg} {c : Tv} {e : Ev} {Q : D → Store → Prop} (h : PM (it ρ) S fun itm S1 => itm.items.length < sizeLine ∧ ∃ g : D → Option D,
      (∀ acc, itm.src.ok (S1 ++ [.lst acc])) ∧ (∀ d ∈ itm.items, ∃ ρ1, tg.asg d (own.foldr (fun i ρ => ρ.set i none) ρ) = some ρ1 ∧ ∀ acc, PM (c ρ1) (S1 ++ [.lst acc]) fun b S' => S' = S1 ++ [.lst acc] ∧
        if b then PM (e ρ1) S' fun y S'' => S'' = S' ∧ g d = some y else g d = none) ∧ Q (.ref S1.length) (S1 ++ [.lst (itm.items.filterMap g)])) : PM (eComp own it tg c e ρ) S Q := by
  have key : PM (it ρ) S fun itm S1 => PM (fun S => compGo S.length itm.src tg c e (own.foldr (fun i ρ => ρ.set i none) ρ) itm.items (S ++ [.lst []]) : M D) S1 Q := ?_
  · exact (PM_bind (x := it ρ) (f := fun itm => (fun S => compGo S.length itm.src tg c e (own.foldr (fun i ρ => ρ.set i none) ρ) itm.items (S ++ [.lst []]) : M D))).mpr key
  refine h.imp fun itm S1 ⟨hz, g, hok, hd, hQ⟩ => ?_
  have go : ∀ (items : List D) (acc : List D), (∀ d ∈ items, d ∈ itm.items) → acc.length + items.length < sizeLine → compGo S1.length itm.src tg c e (own.foldr (fun i ρ => ρ.set i none) ρ) items (S1 ++ [.lst acc]) = some (.ok (.ref S1.length) (S1 ++ [.lst (acc ++ items.filterMap g)])) := by
    intro items
    induction items with
    | nil =>
      intro acc _ _
      unfold compGo
      rw [if_pos (hok acc)]
      simp
    | cons d ds ih =>
      intro acc hm hl
      obtain ⟨ρ1, h1, h2⟩ := hd d (hm d List.mem_cons_self)
      obtain ⟨b, S', e1, hS, h3⟩ := h2 acc
      subst hS
      unfold compGo
      rw [if_pos (hok acc), h1]
      simp only [e1]
      cases b with
      | false =>
        simp only [Bool.false_eq_true, if_false] at h3
        simp only
        rw [ih acc (fun d hd => hm d (List.mem_cons_of_mem _ hd)) (by simp at hl; omega), List.filterMap_cons, h3]
      | true =>
        simp only [if_true] at h3
        obtain ⟨y, S'', e2, hS2, h4⟩ := h3
        subst hS2
        simp only [e2]
        have hget : (S1 ++ [Cell.lst acc])[S1.length]? = some (.lst acc) := by simp
        rw [hget]
        simp only
        rw [if_pos (by simp at hl; omega)]
        have hset : (S1 ++ [Cell.lst acc]).set S1.length (.lst (acc ++ [y])) = S1 ++ [.lst (acc ++ [y])] := by simp
        rw [hset, ih (acc ++ [y]) (fun d hd => hm d (List.mem_cons_of_mem _ hd)) (by simp at hl ⊢; omega), List.filterMap_cons, h4]
        simp
  have := go itm.items [] (fun d hd => hd) (by simpa using hz)
  exact (PM_of (by simpa using this)).mpr hQ
/-- a call, by the body -/
theorem PM_fn {Γ : Pg} {bs : List (Calls → Sv)} {k i : Nat} {f : Fd} {b : Calls → Sv} {ds : List D} {Q : D → Store → Prop} (hf : Γ.fns[i]? = some f) (hb : bs[i]? = some b) (hl : ds.length = f.ps.length)
    (h : PZ (b (callsAt Γ bs k)) (ds.map some ++ List.replicate (f.N.length - ds.length) none) S fun r => match r with
      | .rt d S' => Q d (dropR S d S')
      | .nx _ S' => Q .non (dropR S .non S')
      | _ => False) : PM ((callsAt Γ bs (k + 1)).fn i ds) S Q := by
  obtain ⟨r, e, c, h⟩ := h
  have e1 : (callsAt Γ bs (k + 1)).fn i ds = runF f b (callsAt Γ bs k) ds := by
    show (match Γ.fns[i]?, bs[i]? with
      | some f, some b => runF f b (callsAt Γ bs k) ds
      | _, _ => .stuck) = _
    rw [hf, hb]
  rw [e1]
  unfold PM runF
  cases r with
  | rt d S' => exact ⟨_, _, by simp only [hl, if_true] at e ⊢; rw [e], h⟩
  | nx ρ' S' => exact ⟨_, _, by simp only [hl, if_true] at e ⊢; rw [e], h⟩
  | bk _ _ => exact h.elim
  | ct _ _ => exact h.elim
  | ex _ _ _ => exact h.elim
/-- a new frozen instance -/
theorem PM_new {Γ : Pg} {bs : List (Calls → Sv)} {k c i : Nat} {cd : Cd} {ds xs : List D} {Q : D → Store → Prop} (hc : Γ.cls[c]? = some cd) (hi : cd.init = some i) (hz : cd.frozen = true)
    (h : PM ((callsAt Γ bs k).fn i (.ref S.length :: ds)) (S ++ [.obj c []]) fun d S' => d = .non ∧ S' = S ++ [.obj c (cd.fields.zip xs)]) (hx : xs.length = cd.fields.length) (hb : belowDs S.length xs) (hQ : Q (.obj c xs) S) : PM ((callsAt Γ bs (k + 1)).new c ds) S Q := by
  obtain ⟨d, S', e, rfl, rfl⟩ := h
  refine ⟨.obj c xs, S, ?_, hQ⟩
  show runMk Γ (callsAt Γ bs k).fn c ds S = _
  unfold runMk
  rw [hc]
  simp only [hi, e]
  have e1 : (S ++ [Cell.obj c (cd.fields.zip xs)])[S.length]? = some (.obj c (cd.fields.zip xs)) := by simp
  rw [e1]
  simp only [hz, if_true]
  have e2 : (cd.fields.zip xs).map (·.1) = cd.fields := List.map_fst_zip (by omega)
  have e3 : (cd.fields.zip xs).map (·.2) = xs := List.map_snd_zip (by omega)
  rw [if_pos ⟨rfl, e2, by simp, by rw [e3]; exact hb, .inl (by simp)⟩, e3]
  simp
end
end MP

/-! MPX: the operations' ends. -/
namespace MP
open PySem PySem.Spec PyProof.Rows L2
section
variable {S : Store} {ρ : En} {Q : D → Store → Prop} {B : Bool → Store → Prop} {i j : Int} {Γ : Pg} {C : Calls}
theorem PM_add : PM (oAdd (.int i) (.int j)) S Q ↔ Q (.int (i + j)) S := PM_ret
theorem PM_sub : PM (oSub (.int i) (.int j)) S Q ↔ Q (.int (i - j)) S := PM_ret
theorem PM_mul : PM (oMul (.int i) (.int j)) S Q ↔ mulOk i j ∧ Q (.int (i * j)) S := by
  show PM (M.guard (mulOk i j) (.ret _)) S Q ↔ _
  rw [PM_guard, PM_ret]
theorem PM_fdiv : PM (oFdiv (.int i) (.int j)) S Q ↔ divOk j ∧ Q (.int (i.fdiv j)) S := by
  show PM (M.guard (divOk j) (.ret _)) S Q ↔ _
  rw [PM_guard, PM_ret]
theorem PM_mod : PM (oMod (.int i) (.int j)) S Q ↔ j ≠ 0 ∧ Q (.int (i.fmod j)) S := by
  show PM (M.guard (j ≠ 0) (.ret _)) S Q ↔ _
  rw [PM_guard, PM_ret]
theorem PM_pow : PM (oPow (.int i) (.int j)) S Q ↔ powOk i j ∧ Q (.int (i ^ j.toNat)) S := by
  show PM (M.guard (powOk i j) (.ret _)) S Q ↔ _
  rw [PM_guard, PM_ret]
theorem PM_neg : PM (oNeg (.int i)) S Q ↔ Q (.int (-i)) S := PM_ret
theorem PM_lt : PM (cLt (.int i) (.int j)) S B ↔ B (decide (i < j)) S := PM_ret
theorem PM_le : PM (cLe (.int i) (.int j)) S B ↔ B (decide (i ≤ j)) S := PM_ret
theorem PM_gt : PM (cGt (.int i) (.int j)) S B ↔ B (decide (j < i)) S := PM_ret
theorem PM_ge : PM (cGe (.int i) (.int j)) S B ↔ B (decide (j ≤ i)) S := PM_ret
theorem cEq_int : cEq (.int i) (.int j) S = some (.ok (decide (i = j)) S) := by
  show (if min (PyData.int i).depth (PyData.int j).depth ≤ 200 then some (R.ok (PyData.eqv (.int i) (.int j)) S) else none) = _
  rw [if_pos (show min (PyData.int i).depth (PyData.int j).depth ≤ 200 from Nat.le_trans (Nat.min_le_left _ _) (by show (PyData.int i).depth ≤ 200; unfold PyData.depth; decide))]
  rfl
theorem PM_eqi : PM (cEq (.int i) (.int j)) S B ↔ B (decide (i = j)) S := PM_of cEq_int
theorem PM_cNe {a b : D} : PM (cNe a b) S B ↔ PM (cEq a b) S fun k S' => B (!k) S' := by
  unfold cNe; simp only [PM_bind, PM_ret]
theorem PM_nei : PM (cNe (.int i) (.int j)) S B ↔ B (!decide (i = j)) S := by rw [PM_cNe, PM_eqi]
theorem own_int {mt : Str} {base : D → D → M Bool} {y : D} : cOwn Γ C mt base (.int i) y = base (.int i) y := rfl
theorem own_bl {mt : Str} {base : D → D → M Bool} {b : Bool} {y : D} : cOwn Γ C mt base (.bl b) y = base (.bl b) y := rfl
theorem own_tup {mt : Str} {base : D → D → M Bool} {b : List D} {y : D} : cOwn Γ C mt base (.tup b) y = base (.tup b) y := rfl
theorem own_str {mt : Str} {base : D → D → M Bool} {b : Str} {y : D} : cOwn Γ C mt base (.str b) y = base (.str b) y := rfl
theorem PM_ownL {mt : Str} {base : D → D → M Bool} {r : Nat} {xs : List D} {y : D} (h : S[r]? = some (.lst xs)) : PM (cOwn Γ C mt base (.ref r) y) S B ↔ PM (base (.ref r) y) S B := by
  have : cOwn Γ C mt base (.ref r) y S = base (.ref r) y S := by
    unfold cOwn clsD
    simp only [h]
  unfold PM
  rw [this]
theorem PM_isNon {a : D} : PM (cIs a .non) S B ↔ B a.isNon S := PM_ret
theorem PM_isBl {a : D} {b : Bool} : PM (cIs a (.bl b)) S B ↔ B (a.isBl b) S := PM_ret
theorem PM_isnot {a b : D} : PM (cIsNot a b) S B ↔ PM (cIs a b) S fun k S' => B (!k) S' := by
  unfold cIsNot; simp only [PM_bind, PM_ret]
theorem PM_tbl {b : Bool} : PM (truth (.bl b)) S B ↔ B b S := PM_ret
theorem PM_tint : PM (truth (.int i)) S B ↔ B (i != 0) S := PM_ret
theorem PM_tnon : PM (truth .non) S B ↔ B false S := PM_ret
theorem PM_ttup {xs : List D} : PM (truth (.tup xs)) S B ↔ B (!xs.isEmpty) S := PM_ret
theorem PM_tlst {r : Nat} {xs : List D} (h : S[r]? = some (.lst xs)) : PM (truth (.ref r)) S B ↔ B (!xs.isEmpty) S := PM_of (by unfold truth; simp only [h])
theorem PM_lenT {xs : List D} : PM (fLen (.tup xs)) S Q ↔ Q (.int xs.length) S := PM_ret
theorem PM_lenF {xs : List D} : PM (fLen (.flst xs)) S Q ↔ Q (.int xs.length) S := PM_ret
theorem PM_lenL {r : Nat} {xs : List D} (h : S[r]? = some (.lst xs)) : PM (fLen (.ref r)) S Q ↔ Q (.int xs.length) S := PM_of (by unfold fLen; simp only [h])
theorem PM_int : PM (fInt (.int i)) S Q ↔ Q (.int i) S := PM_ret
theorem PM_abs : PM (fAbs (.int i)) S Q ↔ Q (.int (if i < 0 then -i else i)) S := PM_ret
theorem PM_tupL {r : Nat} {xs : List D} (h : S[r]? = some (.lst xs)) : PM (fTup (.ref r)) S Q ↔ Q (.tup xs) S := by
  show PM (M.bind (getL r) fun xs => .ret (.tup xs)) S Q ↔ _
  rw [PM_bind, PM_getL h, PM_ret]
theorem PM_tupT {xs : List D} : PM (fTup (.tup xs)) S Q ↔ Q (.tup xs) S := PM_ret
theorem PM_lstF {xs : List D} : PM (fLst (.flst xs)) S Q ↔ Q (.ref S.length) (S ++ [.lst xs]) := PM_of rfl
theorem PM_ixT {xs : List D} : PM (oIx (.tup xs) (.int i)) S Q ↔ ∃ d, atI xs i = some d ∧ Q d S := PM_optM
theorem PM_ixL {r : Nat} {xs : List D} (h : S[r]? = some (.lst xs)) : PM (oIx (.ref r) (.int i)) S Q ↔ ∃ d, atI xs i = some d ∧ Q d S := by
  unfold PM oIx
  simp only [h]
  cases atI xs i with
  | none => simp
  | some d =>
    constructor
    · rintro ⟨_, _, e, q⟩; cases e; exact ⟨d, rfl, q⟩
    · rintro ⟨d', e, q⟩; cases e; exact ⟨d, S, rfl, q⟩
theorem PM_ixD {r : Nat} {kvs : List (Key × D)} {z : Str} {d : D} (h : S[r]? = some (.dct kvs)) (hd : valD kvs (.inr z) = some d) : PM (oIx (.ref r) (.str z)) S Q ↔ Q d S := PM_of (by unfold oIx; simp only [h, keyD, hd])
theorem PM_putD {r : Nat} {kvs : List (Key × D)} {z : Str} {d : D} {U : Unit → Store → Prop} (h : S[r]? = some (.dct kvs)) (hl : kvs.length < sizeLine) : PM (oPut (.ref r) (.str z) d) S U ↔ U () (S.set r (.dct (putD kvs (.inr z) d))) := PM_of (by unfold oPut; simp only [h, keyD, hl, if_true])
theorem PM_putL {r : Nat} {xs : List D} {n : Nat} {d : D} {U : Unit → Store → Prop} (h : S[r]? = some (.lst xs)) (hn : ixN xs.length i = some n) : PM (oPut (.ref r) (.int i) d) S U ↔ U () (S.set r (.lst (xs.set n d))) := PM_of (by unfold oPut; simp only [h, hn])
theorem PM_putF {r c : Nat} {fs : List (Str × D)} {f : Str} {d : D} {U : Unit → Store → Prop} (h : S[r]? = some (.obj c fs)) (hf : f ∈ Γ.fields c) (hl : fs.length < 1000) : PM (oPutF Γ f (.ref r) d) S U ↔ U () (S.set r (.obj c (putFD f d fs))) := PM_of (by unfold oPutF; simp only [h, hf, hl, and_self, if_true])
theorem PM_fldO {c : Nat} {xs : List D} {f : Str} {d : D} (h : ((Γ.fields c).zip xs).lookup f = some d) : PM (oFld Γ f (.obj c xs)) S Q ↔ Q d S := by
  show PM (optM (((Γ.fields c).zip xs).lookup f)) S Q ↔ _
  rw [h]; exact PM_ret
theorem PM_isi {x c : D} {t : Ty} {b : Bool} (h1 : tyD S x = some t) (h2 : isiK Γ t c = some b) : PM (fIsi Γ x c) S Q ↔ Q (.bl b) S := PM_of (by unfold fIsi; simp only [h1, h2])
theorem PM_eM {T : String} {mm : D → List D → M D} {o : Ev} {a : Av} : PM (eM T mm o a ρ) S Q ↔ PM (o ρ) S fun x S1 => isKind T x S1 = true ∧ PM (a ρ) S1 fun ds S2 => PM (mm x ds) S2 Q := by
  have h1 : ∀ x S1, PM (fun S => if isKind T x S = true then M.bind (a ρ) (fun ds => mm x ds) S else none : M D) S1 Q ↔ isKind T x S1 = true ∧ PM (a ρ) S1 fun ds S2 => PM (mm x ds) S2 Q := fun x S1 => by
    rw [← PM_bind]
    unfold PM
    by_cases h : isKind T x S1 = true
    · simp only [h, if_true, true_and]
    · rw [Bool.not_eq_true] at h
      constructor
      · rintro ⟨_, _, e, _⟩
        simp only [h] at e
        cases e
      · rintro ⟨h2, _⟩
        rw [h] at h2; cases h2
  have h2 : PM (eM T mm o a ρ) S Q ↔ PM (o ρ) S fun x S1 => PM (fun S => if isKind T x S = true then M.bind (a ρ) (fun ds => mm x ds) S else none : M D) S1 Q :=
    PM_bind (x := o ρ) (f := fun x => (fun S => if isKind T x S = true then M.bind (a ρ) (fun ds => mm x ds) S else none : M D))
  rw [h2]
  constructor <;> intro h <;> refine h.imp fun x S1 q => ?_
  · exact (h1 _ _).mp q
  · exact (h1 _ _).mpr q
theorem kindL {r : Nat} {xs : List D} (h : S[r]? = some (.lst xs)) : isKind "list" (.ref r) S = true := by unfold isKind; simp only [h]; decide
theorem PM_append {r : Nat} {xs : List D} {y : D} (h : S[r]? = some (.lst xs)) (hl : xs.length < sizeLine) : PM (mAppend (.ref r) [y]) S Q ↔ Q .non (S.set r (.lst (xs ++ [y]))) := PM_of (by unfold mAppend; simp only [h, hl, if_true])
theorem PM_addL {r q : Nat} {xs ys : List D} (h : S[r]? = some (.lst xs)) (h2 : S[q]? = some (.lst ys)) : PM (oAdd (.ref r) (.ref q)) S Q ↔ xs.length + ys.length ≤ sizeLine ∧ Q (.ref S.length) (S ++ [.lst (xs ++ ys)]) := by
  show PM (M.bind (getL r) fun xs => .bind (getL q) fun ys => .guard (xs.length + ys.length ≤ sizeLine) (newL (xs ++ ys))) S Q ↔ _
  rw [PM_bind, PM_getL h, PM_bind, PM_getL h2, PM_guard, PM_newL]
theorem PM_mulL {r : Nat} {xs : List D} (h : S[r]? = some (.lst xs)) : PM (oMul (.ref r) (.int i)) S Q ↔ repOk xs.length i ∧ Q (.ref S.length) (S ++ [.lst (List.replicate i.toNat xs).flatten]) := by
  show PM (M.bind (getL r) fun xs => .guard (repOk xs.length i) (newL (List.replicate i.toNat xs).flatten)) S Q ↔ _
  rw [PM_bind, PM_getL h, PM_guard, PM_newL]
/-! loops' items -/
theorem PM_iSeq {e : Ev} {J : Itm → Store → Prop} : PM (iSeq e ρ) S J ↔ PM (e ρ) S fun x S1 => PM (seqM x) S1 fun p S2 => J ⟨p.1, p.2⟩ S2 := by
  unfold iSeq; simp only [PM_bind, PM_ret]
theorem PM_seqT {xs : List D} {J : List D × Src → Store → Prop} : PM (seqM (.tup xs)) S J ↔ J (xs, .non) S := PM_ret
theorem PM_seqF {xs : List D} {J : List D × Src → Store → Prop} : PM (seqM (.flst xs)) S J ↔ J (xs, .non) S := PM_ret
theorem PM_seqL {r : Nat} {xs : List D} {J : List D × Src → Store → Prop} (h : S[r]? = some (.lst xs)) : PM (seqM (.ref r)) S J ↔ J (xs, .lst r xs) S := by
  show PM (M.bind (getL r) fun xs => .ret (xs, .lst r xs)) S J ↔ _
  rw [PM_bind, PM_getL h, PM_ret]
theorem PM_rng1 {e : Ev} {J : Itm → Store → Prop} : PM (iRng1 e ρ) S J ↔ PM (e ρ) S fun x S1 => ∃ j, x = .int j ∧ rngOk j ∧ J ⟨rngL 0 j, .non⟩ S1 := by
  unfold iRng1
  rw [PM_bind]
  constructor <;> intro h <;> refine h.imp fun x S1 q => ?_
  · cases x with
    | int j => exact ⟨j, rfl, by rw [PM_guard, PM_ret] at q; exact q⟩
    | _ => exact (PM_stuck.mp q).elim
  · obtain ⟨j, rfl, q⟩ := q
    rw [PM_guard, PM_ret]; exact q
theorem PM_rng2 {e f : Ev} {J : Itm → Store → Prop} : PM (iRng2 e f ρ) S J ↔ PM (e ρ) S fun x S1 => PM (f ρ) S1 fun y S2 => ∃ i j, x = .int i ∧ y = .int j ∧ (rngOk i ∧ rngOk j) ∧ J ⟨rngL i j, .non⟩ S2 := by
  unfold iRng2
  rw [PM_bind]
  simp only [PM_bind]
  constructor <;> intro h <;> refine h.imp fun x S1 h => h.imp fun y S2 q => ?_
  · cases x with
    | int i =>
      cases y with
      | int j => exact ⟨i, j, rfl, rfl, by rw [PM_guard, PM_ret] at q; exact q⟩
      | _ => exact (PM_stuck.mp q).elim
    | _ => cases y <;> exact (PM_stuck.mp q).elim
  · obtain ⟨i, j, rfl, rfl, q⟩ := q
    rw [PM_guard, PM_ret]; exact q
theorem PM_enum {e : Ev} {J : Itm → Store → Prop} : PM (iEnum' e ρ) S J ↔ PM (e ρ) S fun x S1 => PM (seqM x) S1 fun p S2 => J ⟨enumL p.1, p.2⟩ S2 := by
  unfold iEnum'; simp only [PM_bind, PM_ret]
end

/-! isinstance -/
theorem bs_NoneType_NoneType : bSub "NoneType" "NoneType" = some true := by decide
theorem bs_NoneType_bool : bSub "NoneType" "bool" = some false := by decide
theorem bs_NoneType_int : bSub "NoneType" "int" = some false := by decide
theorem bs_NoneType_str : bSub "NoneType" "str" = some false := by decide
theorem bs_NoneType_list : bSub "NoneType" "list" = some false := by decide
theorem bs_NoneType_tuple : bSub "NoneType" "tuple" = some false := by decide
theorem bs_NoneType_dict : bSub "NoneType" "dict" = some false := by decide
theorem bs_bool_NoneType : bSub "bool" "NoneType" = some false := by decide
theorem bs_bool_bool : bSub "bool" "bool" = some true := by decide
theorem bs_bool_int : bSub "bool" "int" = some true := by decide
theorem bs_bool_str : bSub "bool" "str" = some false := by decide
theorem bs_bool_list : bSub "bool" "list" = some false := by decide
theorem bs_bool_tuple : bSub "bool" "tuple" = some false := by decide
theorem bs_bool_dict : bSub "bool" "dict" = some false := by decide
theorem bs_int_NoneType : bSub "int" "NoneType" = some false := by decide
theorem bs_int_bool : bSub "int" "bool" = some false := by decide
theorem bs_int_int : bSub "int" "int" = some true := by decide
theorem bs_int_str : bSub "int" "str" = some false := by decide
theorem bs_int_list : bSub "int" "list" = some false := by decide
theorem bs_int_tuple : bSub "int" "tuple" = some false := by decide
theorem bs_int_dict : bSub "int" "dict" = some false := by decide
theorem bs_str_NoneType : bSub "str" "NoneType" = some false := by decide
theorem bs_str_bool : bSub "str" "bool" = some false := by decide
theorem bs_str_int : bSub "str" "int" = some false := by decide
theorem bs_str_str : bSub "str" "str" = some true := by decide
theorem bs_str_list : bSub "str" "list" = some false := by decide
theorem bs_str_tuple : bSub "str" "tuple" = some false := by decide
theorem bs_str_dict : bSub "str" "dict" = some false := by decide
theorem bs_list_NoneType : bSub "list" "NoneType" = some false := by decide
theorem bs_list_bool : bSub "list" "bool" = some false := by decide
theorem bs_list_int : bSub "list" "int" = some false := by decide
theorem bs_list_str : bSub "list" "str" = some false := by decide
theorem bs_list_list : bSub "list" "list" = some true := by decide
theorem bs_list_tuple : bSub "list" "tuple" = some false := by decide
theorem bs_list_dict : bSub "list" "dict" = some false := by decide
theorem bs_tuple_NoneType : bSub "tuple" "NoneType" = some false := by decide
theorem bs_tuple_bool : bSub "tuple" "bool" = some false := by decide
theorem bs_tuple_int : bSub "tuple" "int" = some false := by decide
theorem bs_tuple_str : bSub "tuple" "str" = some false := by decide
theorem bs_tuple_list : bSub "tuple" "list" = some false := by decide
theorem bs_tuple_tuple : bSub "tuple" "tuple" = some true := by decide
theorem bs_tuple_dict : bSub "tuple" "dict" = some false := by decide
theorem bs_dict_NoneType : bSub "dict" "NoneType" = some false := by decide
theorem bs_dict_bool : bSub "dict" "bool" = some false := by decide
theorem bs_dict_int : bSub "dict" "int" = some false := by decide
theorem bs_dict_str : bSub "dict" "str" = some false := by decide
theorem bs_dict_list : bSub "dict" "list" = some false := by decide
theorem bs_dict_tuple : bSub "dict" "tuple" = some false := by decide
theorem bs_dict_dict : bSub "dict" "dict" = some true := by decide

def isT (T : String) (c : D) : Option Bool := match c with
  | .ty n => bSub T n
  | .tup [.ty a, .ty b] => (match bSub T a, bSub T b with
    | some x, some y => some (x || y)
    | _, _ => none)
  | _ => none
theorem isT_ty {T n : String} : isT T (.ty n) = bSub T n := rfl
theorem isT_two {T a b : String} {x y : Bool} (h : bSub T a = some x) (h2 : bSub T b = some y) : isT T (.tup [.ty a, .ty b]) = some (x || y) := by
  unfold isT; simp only [h, h2]
theorem isT_ok {Γ : Pg} {T : String} {c : D} {b : Bool} (h : isT T c = some b) : isiK Γ (.b T) c = some b := by
  unfold isT at h
  split at h
  · exact h
  · rename_i x y
    split at h
    · rename_i x2 y2 h1 h2
      cases h
      show isiAny Γ (.b T) [.ty x, .ty y] = _
      unfold isiAny isiAny isiAny
      have e1 : isi1 Γ (.b T) (.ty x) = some x2 := h1
      have e2 : isi1 Γ (.b T) (.ty y) = some y2 := h2
      simp only [e1, e2, Bool.or_false]
    · cases h
  · cases h
section
variable {S : Store} {Q : D → Store → Prop} {Γ : Pg} {c : D} {b : Bool}
theorem PM_isiN (h : isT "NoneType" c = some b) : PM (fIsi Γ .non c) S Q ↔ Q (.bl b) S := PM_isi rfl (isT_ok h)
theorem PM_isiB {v : Bool} (h : isT "bool" c = some b) : PM (fIsi Γ (.bl v) c) S Q ↔ Q (.bl b) S := PM_isi rfl (isT_ok h)
theorem PM_isiI {v : Int} (h : isT "int" c = some b) : PM (fIsi Γ (.int v) c) S Q ↔ Q (.bl b) S := PM_isi rfl (isT_ok h)
theorem PM_isiS {v : Str} (h : isT "str" c = some b) : PM (fIsi Γ (.str v) c) S Q ↔ Q (.bl b) S := PM_isi rfl (isT_ok h)
theorem PM_isiT {v : List D} (h : isT "tuple" c = some b) : PM (fIsi Γ (.tup v) c) S Q ↔ Q (.bl b) S := PM_isi rfl (isT_ok h)
theorem PM_isiL {r : Nat} {xs : List D} (hr : S[r]? = some (.lst xs)) (h : isT "list" c = some b) : PM (fIsi Γ (.ref r) c) S Q ↔ Q (.bl b) S := PM_isi (by unfold tyD; simp only [hr]) (isT_ok h)
theorem isiK_b {T : String} {i : Nat} (hT : bTypes.contains T = true) (hi : i < Γ.cls.length) : isiK Γ (.b T) (.cls i) = some false := by
  show (if bTypes.contains T && decide (i < Γ.cls.length) then some false else none) = some false
  rw [hT, decide_eq_true hi]; rfl
theorem isiK_o {T : String} {i : Nat} (hT : bTypes.contains T = true) (hi : i < Γ.cls.length) : isiK Γ (.c i) (.ty T) = some false := by
  show (if bTypes.contains T && decide (i < Γ.cls.length) then some false else none) = some false
  rw [hT, decide_eq_true hi]; rfl
theorem isiK_c {i j : Nat} (hi : i < Γ.cls.length) (hj : j < Γ.cls.length) : isiK Γ (.c i) (.cls j) = some (i == j) := by
  show (if decide (i < Γ.cls.length) && decide (j < Γ.cls.length) then some (i == j) else none) = some (i == j)
  rw [decide_eq_true hi, decide_eq_true hj]; rfl
/-- a value that is no instance: whether it is of a class of the text -/
theorem PM_isiC {x : D} {T : String} {i : Nat} (hx : tyD S x = some (.b T)) (hT : bTypes.contains T = true) (hi : i < Γ.cls.length) : PM (fIsi Γ x (.cls i)) S Q ↔ Q (.bl false) S := PM_isi hx (isiK_b hT hi)
theorem PM_isiO {xs : List D} {i j : Nat} (hi : i < Γ.cls.length) (hj : j < Γ.cls.length) : PM (fIsi Γ (.obj i xs) (.cls j)) S Q ↔ Q (.bl (i == j)) S := PM_isi rfl (isiK_c hi hj)
theorem PM_isiOT {xs : List D} {i : Nat} {T : String} (hi : i < Γ.cls.length) (hT : bTypes.contains T = true) : PM (fIsi Γ (.obj i xs) (.ty T)) S Q ↔ Q (.bl false) S := PM_isi rfl (isiK_o hT hi)
end
theorem fn_eq {α : Type} {x : M α} {S S2 : Store} {v : α} (h : PM x S fun a S' => a = v ∧ S' = S2) : x S = some (.ok v S2) := by
  obtain ⟨a, S', e, rfl, rfl⟩ := h
  exact e
theorem sizeLine_big : 1000000 < sizeLine := by decide
end MP

namespace MP
open PySem PySem.Spec PyProof.Rows L2
/-! ### the text as the interpreter has it (printed by gen.py) -/
abbrev PW : Program := PySem.Challenge.pw_sumsmade_k72_leftovers_bent
def top (i : Nat) : Stmt := PW.main.body.getD i (.Pass ⟨0, 0, 0, 0⟩)
def sub (i j : Nat) : Stmt := match top i with
  | .ClassDef _ _ _ body _ _ _ _ _ _ _ => body.getD j (.Pass ⟨0, 0, 0, 0⟩)
  | s => s
def Γ : Pg where
  gl := [(("Clash" : Str), GB.cls 1), (("Found" : Str), GB.cls 0), (("MOST_BY" : Str), GB.int (1000000)), (("MOST_DEMANDS" : Str), GB.int (12)), (("MOST_LEFT" : Str), GB.int (1000000000)), (("_law_demands" : Str), GB.fn 28), (("_law_draw" : Str), GB.fn 23), (("_law_gcd" : Str), GB.fn 27), (("_law_is" : Str), GB.fn 25), (("_law_pen" : Str), GB.fn 22), (("_law_pick" : Str), GB.fn 24), (("_law_whole" : Str), GB.fn 26), (("abs" : Str), GB.free), (("all" : Str), GB.free), (("as_tuples" : Str), GB.fn 7), (("bool" : Str), GB.free), (("both_demands" : Str), GB.fn 15), (("clash_holds" : Str), GB.fn 21), (("do_clash" : Str), GB.fn 12), (("enumerate" : Str), GB.free), (("first_clash" : Str), GB.fn 13), (("found_by" : Str), GB.fn 16), (("found_holds" : Str), GB.fn 20), (("found_or_clash" : Str), GB.fn 17), (("greatest_divisor" : Str), GB.fn 9), (("int" : Str), GB.free), (("is_demand" : Str), GB.fn 10), (("is_index" : Str), GB.fn 8), (("is_whole" : Str), GB.fn 6), (("isinstance" : Str), GB.free), (("law" : Str), GB.fn 29), (("least_by" : Str), GB.fn 19), (("len" : Str), GB.free), (("list" : Str), GB.free), (("meets_by" : Str), GB.fn 18), (("need_demands" : Str), GB.fn 11), (("range" : Str), GB.free), (("shares_of" : Str), GB.fn 14), (("str" : Str), GB.free), (("tuple" : Str), GB.free)]
  cls := [⟨["number", "by"], true, some 0, [(("__eq__" : Str), 1), (("__ne__" : Str), 2)]⟩, ⟨["one", "other"], true, some 3, [(("__eq__" : Str), 4), (("__ne__" : Str), 5)]⟩]
  fns := [⟨["self", "number", "by"], ["self", "number", "by"]⟩,
    ⟨["self", "other"], ["self", "other"]⟩,
    ⟨["self", "other"], ["self", "other"]⟩,
    ⟨["self", "one", "other"], ["self", "one", "other"]⟩,
    ⟨["self", "other"], ["self", "other"]⟩,
    ⟨["self", "other"], ["self", "other"]⟩,
    ⟨["value"], ["value"]⟩,
    ⟨["value"], ["value", "line", "done", "source", "at", "found"]⟩,
    ⟨["value", "many"], ["value", "many"]⟩,
    ⟨["one", "other"], ["one", "other"]⟩,
    ⟨["value"], ["value"]⟩,
    ⟨["demands"], ["demands", "known", "one"]⟩,
    ⟨["one", "other"], ["one", "other"]⟩,
    ⟨["demands"], ["demands", "at", "one", "index"]⟩,
    ⟨["one", "other"], ["one", "other", "first", "second", "times"]⟩,
    ⟨["one", "other"], ["one", "other", "divisor", "numbers", "by"]⟩,
    ⟨["demands"], ["demands", "found", "demand"]⟩,
    ⟨["demands"], ["demands", "known", "clash", "number", "by"]⟩,
    ⟨["demands", "number"], ["demands", "number", "left", "by"]⟩,
    ⟨["demands"], ["demands", "found", "left", "by"]⟩,
    ⟨["demands", "value"], ["demands", "value", "known"]⟩,
    ⟨["demands", "value"], ["demands", "value", "known"]⟩,
    ⟨["script"], ["script", "fold", "cell"]⟩,
    ⟨["pen", "many"], ["pen", "many", "cell", "digit", "blend"]⟩,
    ⟨["pen", "some"], ["pen", "some"]⟩,
    ⟨["told", "due"], ["told", "due", "at"]⟩,
    ⟨["value"], ["value"]⟩,
    ⟨["one", "other"], ["one", "other"]⟩,
    ⟨["pen"], ["pen", "way", "number", "found", "lap", "by", "at"]⟩,
    ⟨["script"], ["script", "pen", "lap", "demands", "told", "by", "left", "own", "turn", "number", "some", "one", "two", "value", "good", "at", "index", "first", "second"]⟩]
noncomputable def b_Found_init (C : Calls) : Sv :=
    (sSeq (sAsg (gFldS Γ "number" (eSlot 0)) (eCall C 7 1 (aCons (eSlot 1) aNil)))
    (sAsg (gFldS Γ "by" (eSlot 0)) (eCall C 7 1 (aCons (eSlot 2) aNil))))
noncomputable def b_Found_eq (C : Calls) : Sv :=
    (sRet (eAnd (eOp (fIsi Γ) (eSlot 1) (eC (.cls 0))) (eT (tCmp (cOwn Γ C "__eq__" cEq) (eTup (aCons (eUn (oFld Γ "number") (eSlot 0)) (aCons (eUn (oFld Γ "by") (eSlot 0)) aNil))) (eTup (aCons (eUn (oFld Γ "number") (eSlot 1)) (aCons (eUn (oFld Γ "by") (eSlot 1)) aNil)))))))
noncomputable def b_Found_ne (C : Calls) : Sv :=
    (sRet (eT (tNot (tV (eT (tCmp (cOwn Γ C "__eq__" cEq) (eSlot 0) (eSlot 1)))))))
noncomputable def b_Clash_init (C : Calls) : Sv :=
    (sSeq (sAsg (gFldS Γ "one" (eSlot 0)) (eCall C 7 1 (aCons (eSlot 1) aNil)))
    (sAsg (gFldS Γ "other" (eSlot 0)) (eCall C 7 1 (aCons (eSlot 2) aNil))))
noncomputable def b_Clash_eq (C : Calls) : Sv :=
    (sRet (eAnd (eOp (fIsi Γ) (eSlot 1) (eC (.cls 1))) (eT (tCmp (cOwn Γ C "__eq__" cEq) (eTup (aCons (eUn (oFld Γ "one") (eSlot 0)) (aCons (eUn (oFld Γ "other") (eSlot 0)) aNil))) (eTup (aCons (eUn (oFld Γ "one") (eSlot 1)) (aCons (eUn (oFld Γ "other") (eSlot 1)) aNil)))))))
noncomputable def b_Clash_ne (C : Calls) : Sv :=
    (sRet (eT (tNot (tV (eT (tCmp (cOwn Γ C "__eq__" cEq) (eSlot 0) (eSlot 1)))))))
noncomputable def b_is_whole (C : Calls) : Sv :=
    (sRet (eAnd (eOp (fIsi Γ) (eSlot 0) (eC (.ty "int"))) (eT (tNot (tV (eOp (fIsi Γ) (eSlot 0) (eC (.ty "bool"))))))))
noncomputable def b_as_tuples (C : Calls) : Sv :=
    (sSeq (sIf (tNot (tV (eOp (fIsi Γ) (eSlot 0) (eTup (aCons (eC (.ty "list")) (aCons (eC (.ty "tuple")) aNil)))))) (sRet (eSlot 0)) sNx)
    (sSeq (sPar [1, 2] (aCons (eLst (aCons (eLst (aCons (eSlot 0) (aCons (eC (.int 0)) (aCons (eLst aNil) aNil)))) aNil)) (aCons (eC .non) aNil)))
    (sSeq (sWhile (tV (eSlot 1)) (sSeq (sAsg (gTupG [(gOne 3), (gOne 4), (gOne 5)]) (eOp oIx (eSlot 1) (eUn oNeg (eC (.int 1)))))
    (sIf (tCmp (cOwn Γ C "__eq__" cEq) (eSlot 4) (eUn fLen (eSlot 3))) (sSeq (sDrop (eM "list" mPop (eSlot 1) aNil))
    (sSeq (sAsg (gOne 2) (eUn fTup (eSlot 5)))
    (sIf (tV (eSlot 1)) (sDrop (eM "list" mAppend (eOp oIx (eOp oIx (eSlot 1) (eUn oNeg (eC (.int 1)))) (eC (.int 2))) (aCons (eSlot 2) aNil))) sNx))) (sIf (tV (eOp (fIsi Γ) (eOp oIx (eSlot 3) (eSlot 4)) (eTup (aCons (eC (.ty "list")) (aCons (eC (.ty "tuple")) aNil))))) (sSeq (sAsg (gSubS (eOp oIx (eSlot 1) (eUn oNeg (eC (.int 1)))) (eC (.int 1))) (eOp oAdd (eSlot 4) (eC (.int 1))))
    (sDrop (eM "list" mAppend (eSlot 1) (aCons (eLst (aCons (eOp oIx (eSlot 3) (eSlot 4)) (aCons (eC (.int 0)) (aCons (eLst aNil) aNil)))) aNil)))) (sSeq (sAsg (gSubS (eOp oIx (eSlot 1) (eUn oNeg (eC (.int 1)))) (eC (.int 1))) (eOp oAdd (eSlot 4) (eC (.int 1))))
    (sDrop (eM "list" mAppend (eSlot 5) (aCons (eOp oIx (eSlot 3) (eSlot 4)) aNil))))))))
    (sRet (eSlot 2)))))
noncomputable def b_is_index (C : Calls) : Sv :=
    (sRet (eAnd (eCall C 6 1 (aCons (eSlot 0) aNil)) (eT (tChn (eC (.int 0)) (.more cLe (eSlot 0) (.last cLt (eSlot 1)))))))
noncomputable def b_greatest_divisor (C : Calls) : Sv :=
    (sSeq (sWhile (tV (eSlot 1)) (sPar [0, 1] (aCons (eSlot 1) (aCons (eOp oMod (eSlot 0) (eSlot 1)) aNil))))
    (sRet (eUn fAbs (eSlot 0))))
noncomputable def b_is_demand (C : Calls) : Sv :=
    (sSeq (sIf (tOr (tNot (tV (eOp (fIsi Γ) (eSlot 0) (eC (.ty "tuple"))))) (tOr (tCmp (cOwn Γ C "__ne__" cNe) (eUn fLen (eSlot 0)) (eC (.int 2))) (tOr (tNot (tV (eCall C 6 1 (aCons (eOp oIx (eSlot 0) (eC (.int 0))) aNil)))) (tNot (tV (eCall C 6 1 (aCons (eOp oIx (eSlot 0) (eC (.int 1))) aNil))))))) (sRet (eC (.bl false))) sNx)
    (sRet (eAnd (eT (tCmp cLe (eUn fAbs (eOp oIx (eSlot 0) (eC (.int 0)))) (eC (.int (1000000000))))) (eT (tChn (eC (.int 1)) (.more cLe (eOp oIx (eSlot 0) (eC (.int 1))) (.last cLe (eC (.int (1000000))))))))))
noncomputable def b_need_demands (C : Calls) : Sv :=
    (sSeq (sAsg (gOne 1) (eIf (tV (eOp (fIsi Γ) (eSlot 0) (eC (.ty "list")))) (eUn fTup (eSlot 0)) (eSlot 0)))
    (sSeq (sIf (tOr (tNot (tV (eOp (fIsi Γ) (eSlot 1) (eC (.ty "tuple"))))) (tOr (tCmp cGt (eUn fLen (eSlot 1)) (eC (.int (12)))) (tNot (tV (eDrop (eUn fAll (eComp [2] (iSeq (eSlot 1)) (.one 2) tTrue (eCall C 10 1 (aCons (eSlot 2) aNil))))))))) sStuck sNx)
    (sRet (eSlot 1))))
noncomputable def b_do_clash (C : Calls) : Sv :=
    (sRet (eT (tCmp (cOwn Γ C "__ne__" cNe) (eOp oMod (eOp oSub (eOp oIx (eSlot 0) (eC (.int 0))) (eOp oIx (eSlot 1) (eC (.int 0)))) (eCall C 9 2 (aCons (eOp oIx (eSlot 0) (eC (.int 1))) (aCons (eOp oIx (eSlot 1) (eC (.int 1))) aNil)))) (eC (.int 0)))))
noncomputable def b_first_clash (C : Calls) : Sv :=
    (sSeq (sFor (iEnum' (eSlot 0)) (.many [1, 2]) (sFor (iRng2 (eOp oAdd (eSlot 1) (eC (.int 1))) (eUn fLen (eSlot 0))) (.one 3) (sIf (tV (eCall C 12 2 (aCons (eSlot 2) (aCons (eOp oIx (eSlot 0) (eSlot 3)) aNil)))) (sRet (eNew C 1 2 (aCons (eSlot 1) (aCons (eSlot 3) aNil)))) sNx)))
    (sRet (eC .non)))
noncomputable def b_shares_of (C : Calls) : Sv :=
    (sSeq (sAsg (gTupG [(gOne 2), (gOne 3)]) (eTup (aCons (eTup (aCons (eC (.int 1)) (aCons (eC (.int 0)) aNil))) (aCons (eTup (aCons (eC (.int 0)) (aCons (eC (.int 1)) aNil))) aNil))))
    (sSeq (sWhile (tV (eSlot 1)) (sSeq (sAsg (gOne 4) (eOp oFdiv (eSlot 0) (eSlot 1)))
    (sSeq (sPar [0, 1] (aCons (eSlot 1) (aCons (eOp oSub (eSlot 0) (eOp oMul (eSlot 4) (eSlot 1))) aNil)))
    (sPar [2, 3] (aCons (eSlot 3) (aCons (eTup (aCons (eOp oSub (eOp oIx (eSlot 2) (eC (.int 0))) (eOp oMul (eSlot 4) (eOp oIx (eSlot 3) (eC (.int 0))))) (aCons (eOp oSub (eOp oIx (eSlot 2) (eC (.int 1))) (eOp oMul (eSlot 4) (eOp oIx (eSlot 3) (eC (.int 1))))) aNil))) aNil))))))
    (sRet (eTup (aCons (eSlot 0) (aCons (eSlot 2) aNil))))))
noncomputable def b_both_demands (C : Calls) : Sv :=
    (sSeq (sAsg (gTupG [(gOne 2), (gOne 3)]) (eCall C 14 2 (aCons (eOp oIx (eSlot 0) (eC (.int 1))) (aCons (eOp oIx (eSlot 1) (eC (.int 1))) aNil))))
    (sSeq (sAsg (gOne 4) (eOp oMul (eOp oFdiv (eOp oIx (eSlot 0) (eC (.int 1))) (eSlot 2)) (eOp oIx (eSlot 1) (eC (.int 1)))))
    (sRet (eTup (aCons (eOp oMod (eOp oAdd (eOp oIx (eSlot 0) (eC (.int 0))) (eOp oMul (eOp oMul (eOp oIx (eSlot 0) (eC (.int 1))) (eOp oIx (eSlot 3) (eC (.int 0)))) (eOp oFdiv (eOp oSub (eOp oIx (eSlot 1) (eC (.int 0))) (eOp oIx (eSlot 0) (eC (.int 0)))) (eSlot 2)))) (eSlot 4)) (aCons (eSlot 4) aNil))))))
noncomputable def b_found_by (C : Calls) : Sv :=
    (sSeq (sAsg (gOne 1) (eTup (aCons (eC (.int 0)) (aCons (eC (.int 1)) aNil))))
    (sSeq (sFor (iSeq (eSlot 0)) (.one 2) (sAsg (gOne 1) (eCall C 15 2 (aCons (eSlot 1) (aCons (eSlot 2) aNil)))))
    (sRet (eSlot 1))))
noncomputable def b_found_or_clash (C : Calls) : Sv :=
    (sSeq (sAsg (gOne 1) (eCall C 11 1 (aCons (eSlot 0) aNil)))
    (sSeq (sAsg (gOne 2) (eCall C 13 1 (aCons (eSlot 1) aNil)))
    (sSeq (sIf (tCmp cIsNot (eSlot 2) (eC .non)) (sRet (eSlot 2)) sNx)
    (sSeq (sAsg (gTupG [(gOne 3), (gOne 4)]) (eCall C 16 1 (aCons (eSlot 1) aNil)))
    (sRet (eNew C 0 2 (aCons (eSlot 3) (aCons (eSlot 4) aNil))))))))
noncomputable def b_meets_by (C : Calls) : Sv :=
    (sRet (eDrop (eUn fAll (eComp [2, 3] (iSeq (eSlot 0)) (.many [2, 3]) tTrue (eT (tCmp (cOwn Γ C "__eq__" cEq) (eOp oMod (eOp oSub (eSlot 1) (eSlot 2)) (eSlot 3)) (eC (.int 0))))))))
noncomputable def b_least_by (C : Calls) : Sv :=
    (sSeq (sAsg (gOne 1) (eC (.int 1)))
    (sSeq (sFor (iSeq (eSlot 0)) (.many [2, 3]) (sAsg (gOne 1) (eOp oMul (eOp oFdiv (eSlot 1) (eCall C 9 2 (aCons (eSlot 1) (aCons (eSlot 3) aNil)))) (eSlot 3))))
    (sRet (eSlot 1))))
noncomputable def b_found_holds (C : Calls) : Sv :=
    (sSeq (sAsg (gOne 2) (eCall C 11 1 (aCons (eSlot 0) aNil)))
    (sSeq (sIf (tOr (tNot (tV (eOp (fIsi Γ) (eSlot 1) (eC (.cls 0))))) (tOr (tNot (tV (eCall C 6 1 (aCons (eUn (oFld Γ "number") (eSlot 1)) aNil)))) (tNot (tV (eCall C 6 1 (aCons (eUn (oFld Γ "by") (eSlot 1)) aNil)))))) (sRet (eC (.bl false))) sNx)
    (sRet (eAnd (eT (tCmp (cOwn Γ C "__eq__" cEq) (eUn (oFld Γ "by") (eSlot 1)) (eCall C 19 1 (aCons (eSlot 2) aNil)))) (eAnd (eT (tChn (eC (.int 0)) (.more cLe (eUn (oFld Γ "number") (eSlot 1)) (.last cLt (eUn (oFld Γ "by") (eSlot 1)))))) (eCall C 18 2 (aCons (eSlot 2) (aCons (eUn (oFld Γ "number") (eSlot 1)) aNil))))))))
noncomputable def b_clash_holds (C : Calls) : Sv :=
    (sSeq (sAsg (gOne 2) (eCall C 11 1 (aCons (eSlot 0) aNil)))
    (sSeq (sIf (tOr (tNot (tV (eOp (fIsi Γ) (eSlot 1) (eC (.cls 1))))) (tOr (tNot (tV (eCall C 8 2 (aCons (eUn (oFld Γ "one") (eSlot 1)) (aCons (eUn fLen (eSlot 2)) aNil))))) (tNot (tV (eCall C 8 2 (aCons (eUn (oFld Γ "other") (eSlot 1)) (aCons (eUn fLen (eSlot 2)) aNil))))))) (sRet (eC (.bl false))) sNx)
    (sRet (eAnd (eT (tCmp cLt (eUn (oFld Γ "one") (eSlot 1)) (eUn (oFld Γ "other") (eSlot 1)))) (eCall C 12 2 (aCons (eOp oIx (eSlot 2) (eUn (oFld Γ "one") (eSlot 1))) (aCons (eOp oIx (eSlot 2) (eUn (oFld Γ "other") (eSlot 1))) aNil)))))))
noncomputable def b__law_pen (C : Calls) : Sv :=
    (sSeq (sAsg (gOne 1) (eC (.int 0)))
    (sSeq (sFor (iSeq (eSlot 0)) (.one 2) (sAsg (gOne 1) (eOp oMod (eUn fInt (eOp oAdd (eOp oMul (eSlot 1) (eC (.int 47))) (eSlot 2))) (eC (.int 1000000007)))))
    (sRet (eDct [((eC (.str "cells")), (eUn fLst (eSlot 0))), ((eC (.str "at")), (eC (.int 0))), ((eC (.str "digits")), (eC (.int 0))), ((eC (.str "count")), (eC (.int 0))), ((eC (.str "fold")), (eSlot 1))]))))
noncomputable def b__law_draw (C : Calls) : Sv :=
    (sSeq (sAsg (gSubS (eSlot 0) (eC (.str "count"))) (eOp oAdd (eOp oIx (eSlot 0) (eC (.str "count"))) (eC (.int 1))))
    (sSeq (sIf (tAnd (tCmp (cOwn Γ C "__eq__" cEq) (eOp oIx (eSlot 0) (eC (.str "digits"))) (eC (.int 0))) (tCmp cLt (eOp oIx (eSlot 0) (eC (.str "at"))) (eUn fLen (eOp oIx (eSlot 0) (eC (.str "cells")))))) (sSeq (sAsg (gOne 2) (eOp oIx (eOp oIx (eSlot 0) (eC (.str "cells"))) (eOp oIx (eSlot 0) (eC (.str "at")))))
    (sSeq (sAsg (gSubS (eSlot 0) (eC (.str "at"))) (eOp oAdd (eOp oIx (eSlot 0) (eC (.str "at"))) (eC (.int 1))))
    (sIf (tCmp cGe (eSlot 2) (eOp oPow (eC (.int 10)) (eC (.int 18)))) (sAsg (gSubS (eSlot 0) (eC (.str "digits"))) (eOp oSub (eSlot 2) (eOp oPow (eC (.int 10)) (eC (.int 18))))) (sAsg (gSubS (eSlot 0) (eC (.str "fold"))) (eOp oMod (eUn fInt (eOp oAdd (eOp oMul (eOp oIx (eSlot 0) (eC (.str "fold"))) (eC (.int 69069))) (eSlot 2))) (eC (.int 2147483587))))))) sNx)
    (sSeq (sIf (tCmp cGt (eOp oIx (eSlot 0) (eC (.str "digits"))) (eC (.int 0))) (sSeq (sAsg (gOne 3) (eOp oMod (eUn fInt (eOp oIx (eSlot 0) (eC (.str "digits")))) (eSlot 1)))
    (sSeq (sAsg (gSubS (eSlot 0) (eC (.str "digits"))) (eOp oFdiv (eOp oIx (eSlot 0) (eC (.str "digits"))) (eSlot 1)))
    (sRet (eSlot 3)))) sNx)
    (sSeq (sAsg (gOne 4) (eOp oMod (eUn fInt (eOp oAdd (eOp oAdd (eOp oMul (eOp oIx (eSlot 0) (eC (.str "fold"))) (eC (.int 48271))) (eOp oMul (eOp oIx (eSlot 0) (eC (.str "count"))) (eC (.int 7919)))) (eC (.int 13)))) (eC (.int 2147483647))))
    (sSeq (sAsg (gOne 4) (eOp oMod (eUn fInt (eOp oAdd (eOp oAdd (eOp oMul (eSlot 4) (eSlot 4)) (eOp oMul (eC (.int 31)) (eSlot 4))) (eOp oIx (eSlot 0) (eC (.str "count"))))) (eC (.int 2147483629))))
    (sSeq (sAsg (gSubS (eSlot 0) (eC (.str "fold"))) (eOp oMod (eUn fInt (eOp oAdd (eOp oMul (eSlot 4) (eC (.int 16807))) (eC (.int 7)))) (eC (.int 2147483647))))
    (sRet (eOp oMod (eUn fInt (eOp oFdiv (eSlot 4) (eC (.int 64)))) (eSlot 1)))))))))
noncomputable def b__law_pick (C : Calls) : Sv :=
    (sRet (eOp oIx (eSlot 1) (eCall C 23 2 (aCons (eSlot 0) (aCons (eUn fLen (eSlot 1)) aNil)))))
noncomputable def b__law_is (C : Calls) : Sv :=
    (sSeq (sIf (tV (eOp (fIsi Γ) (eSlot 1) (eC (.ty "tuple")))) (sSeq (sIf (tOr (tNot (tV (eOp (fIsi Γ) (eSlot 0) (eC (.ty "tuple"))))) (tCmp (cOwn Γ C "__ne__" cNe) (eUn fLen (eSlot 0)) (eUn fLen (eSlot 1)))) (sRet (eC (.bl false))) sNx)
    (sRet (eT (tCmp (cOwn Γ C "__eq__" cEq) (eComp [2] (iRng1 (eUn fLen (eSlot 1))) (.one 2) (tNot (tV (eCall C 25 2 (aCons (eOp oIx (eSlot 0) (eSlot 2)) (aCons (eOp oIx (eSlot 1) (eSlot 2)) aNil))))) (eSlot 2)) (eLst aNil))))) sNx)
    (sSeq (sIf (tCmp cIs (eSlot 1) (eC .non)) (sRet (eT (tCmp cIs (eSlot 0) (eC .non)))) sNx)
    (sSeq (sIf (tCmp cIs (eSlot 1) (eC (.bl true))) (sRet (eT (tCmp cIs (eSlot 0) (eC (.bl true))))) sNx)
    (sSeq (sIf (tCmp cIs (eSlot 1) (eC (.bl false))) (sRet (eT (tCmp cIs (eSlot 0) (eC (.bl false))))) sNx)
    (sSeq (sIf (tV (eOp (fIsi Γ) (eSlot 1) (eC (.ty "str")))) (sRet (eAnd (eOp (fIsi Γ) (eSlot 0) (eC (.ty "str"))) (eT (tCmp (cOwn Γ C "__eq__" cEq) (eSlot 0) (eSlot 1))))) sNx)
    (sRet (eAnd (eOp (fIsi Γ) (eSlot 0) (eC (.ty "int"))) (eAnd (eT (tNot (tV (eOp (fIsi Γ) (eSlot 0) (eC (.ty "bool")))))) (eT (tCmp (cOwn Γ C "__eq__" cEq) (eSlot 0) (eSlot 1)))))))))))
noncomputable def b__law_whole (C : Calls) : Sv :=
    (sRet (eAnd (eOp (fIsi Γ) (eSlot 0) (eC (.ty "int"))) (eT (tNot (tV (eOp (fIsi Γ) (eSlot 0) (eC (.ty "bool"))))))))
noncomputable def b__law_gcd (C : Calls) : Sv :=
    (sSeq (sWhile (tCmp (cOwn Γ C "__ne__" cNe) (eSlot 1) (eC (.int 0))) (sPar [0, 1] (aCons (eSlot 1) (aCons (eOp oMod (eSlot 0) (eSlot 1)) aNil))))
    (sRet (eUn fAbs (eSlot 0))))
noncomputable def b__law_demands (C : Calls) : Sv :=
    (sSeq (sPar [1, 2, 3] (aCons (eCall C 23 2 (aCons (eSlot 0) (aCons (eC (.int 3)) aNil))) (aCons (eOp oSub (eCall C 23 2 (aCons (eSlot 0) (aCons (eC (.int 2000)) aNil))) (eC (.int 1000))) (aCons (eLst aNil) aNil))))
    (sSeq (sFor (iRng1 (eCall C 23 2 (aCons (eSlot 0) (aCons (eC (.int 5)) aNil)))) (.one 4) (sSeq (sAsg (gOne 5) (eOp oAdd (eC (.int 1)) (eCall C 23 2 (aCons (eSlot 0) (aCons (eC (.int 24)) aNil)))))
    (sDrop (eM "list" mAppend (eSlot 3) (aCons (eTup (aCons (eIf (tCmp cGt (eSlot 1) (eC (.int 0))) (eOp oAdd (eSlot 2) (eOp oMul (eSlot 5) (eOp oSub (eCall C 23 2 (aCons (eSlot 0) (aCons (eC (.int 7)) aNil))) (eC (.int 3))))) (eOp oSub (eCall C 23 2 (aCons (eSlot 0) (aCons (eC (.int 61)) aNil))) (eC (.int 30)))) (aCons (eSlot 5) aNil))) aNil)))))
    (sSeq (sIf (tAnd (tCmp (cOwn Γ C "__eq__" cEq) (eSlot 1) (eC (.int 2))) (tCmp (cOwn Γ C "__ne__" cNe) (eSlot 3) (eLst aNil))) (sSeq (sAsg (gOne 6) (eCall C 23 2 (aCons (eSlot 0) (aCons (eUn fLen (eSlot 3)) aNil))))
    (sAsg (gSubS (eSlot 3) (eSlot 6)) (eTup (aCons (eOp oAdd (eOp oIx (eOp oIx (eSlot 3) (eSlot 6)) (eC (.int 0))) (eC (.int 1))) (aCons (eOp oIx (eOp oIx (eSlot 3) (eSlot 6)) (eC (.int 1))) aNil))))) sNx)
    (sRet (eUn fTup (eSlot 3))))))
noncomputable def b_law (C : Calls) : Sv :=
    (sSeq (sAsg (gOne 1) (eCall C 22 1 (aCons (eSlot 0) aNil)))
    (sSeq (sFor (iRng1 (eC (.int 4))) (.one 2) (sSeq (sAsg (gOne 3) (eCall C 28 1 (aCons (eSlot 1) aNil)))
    (sSeq (sPar [4, 5] (aCons (eCall C 17 1 (aCons (eSlot 3) aNil)) (aCons (eC (.int 1)) aNil)))
    (sSeq (sFor (iSeq (eSlot 3)) (.many [6, 7]) (sAsg (gOne 5) (eOp oMul (eOp oFdiv (eSlot 5) (eCall C 27 2 (aCons (eSlot 5) (aCons (eSlot 7) aNil)))) (eSlot 7))))
    (sFor (iRng1 (eC (.int 5))) (.one 8) (sSeq (sAsg (gOne 9) (eIf (tV (eOp (fIsi Γ) (eSlot 4) (eC (.cls 0)))) (eUn (oFld Γ "number") (eSlot 4)) (eCall C 23 2 (aCons (eSlot 1) (aCons (eSlot 5) aNil)))))
    (sSeq (sAsg (gOne 10) (eLst (aCons (eTup (aCons (eSlot 9) (aCons (eSlot 5) aNil))) (aCons (eTup (aCons (eSlot 9) (aCons (eSlot 5) aNil))) (aCons (eTup (aCons (eOp oAdd (eSlot 9) (eSlot 5)) (aCons (eSlot 5) aNil))) (aCons (eTup (aCons (eSlot 9) (aCons (eOp oMul (eC (.int 2)) (eSlot 5)) aNil))) (aCons (eTup (aCons (eOp oAdd (eSlot 9) (eC (.int 1))) (aCons (eSlot 5) aNil))) (aCons (eTup (aCons (eOp oSub (eSlot 9) (eSlot 5)) (aCons (eSlot 5) aNil))) aNil))))))))
    (sSeq (sAsg (gOne 10) (eOp oAdd (eSlot 10) (eLst (aCons (eTup (aCons (eC (.bl true)) (aCons (eSlot 5) aNil))) (aCons (eTup (aCons (eSlot 9) (aCons (eC (.bl true)) aNil))) (aCons (eTup (aCons (eC .non) (aCons (eSlot 5) aNil))) (aCons (eTup (aCons (eSlot 9) (aCons (eC .non) aNil))) (aCons (eTup (aCons (eCall C 23 2 (aCons (eSlot 1) (aCons (eSlot 5) aNil))) (aCons (eSlot 5) aNil))) (aCons (eTup (aCons (eC (.int 0)) (aCons (eC (.int 0)) aNil))) aNil)))))))))
    (sSeq (sAsg (gTupG [(gOne 11), (gOne 12)]) (eCall C 24 2 (aCons (eSlot 1) (aCons (eSlot 10) aNil))))
    (sSeq (sAsg (gOne 13) (eCall C 24 2 (aCons (eSlot 1) (aCons (eOp oAdd (eOp oMul (eLst (aCons (eNew C 0 2 (aCons (eSlot 11) (aCons (eSlot 12) aNil))) aNil)) (eC (.int 6))) (eLst (aCons (eC .non) (aCons (eSlot 4) (aCons (eSlot 9) aNil))))) aNil))))
    (sSeq (sAsg (gOne 14) (eAnd (eOp (fIsi Γ) (eSlot 13) (eC (.cls 0))) (eAnd (eCall C 26 1 (aCons (eUn (oFld Γ "number") (eSlot 13)) aNil)) (eAnd (eCall C 26 1 (aCons (eUn (oFld Γ "by") (eSlot 13)) aNil)) (eAnd (eT (tCmp (cOwn Γ C "__eq__" cEq) (eUn (oFld Γ "by") (eSlot 13)) (eSlot 5))) (eT (tChn (eC (.int 0)) (.more cLe (eUn (oFld Γ "number") (eSlot 13)) (.last cLt (eSlot 5))))))))))
    (sSeq (sAsg (gOne 14) (eAnd (eSlot 14) (eT (tCmp (cOwn Γ C "__eq__" cEq) (eComp [6, 7] (iSeq (eSlot 3)) (.many [6, 7]) (tCmp (cOwn Γ C "__ne__" cNe) (eOp oMod (eOp oSub (eUn (oFld Γ "number") (eSlot 13)) (eSlot 6)) (eSlot 7)) (eC (.int 0))) (eC (.int 1))) (eLst aNil)))))
    (sSeq (sIf (tNot (tV (eCall C 25 2 (aCons (eCall C 20 2 (aCons (eSlot 3) (aCons (eSlot 13) aNil))) (aCons (eSlot 14) aNil))))) (sRet (eC (.bl false))) sNx)
    (sSeq (sAsg (gTupG [(gOne 15), (gOne 16)]) (eIf (tV (eOp (fIsi Γ) (eSlot 4) (eC (.cls 1)))) (eTup (aCons (eUn (oFld Γ "one") (eSlot 4)) (aCons (eUn (oFld Γ "other") (eSlot 4)) aNil))) (eTup (aCons (eCall C 23 2 (aCons (eSlot 1) (aCons (eOp oAdd (eUn fLen (eSlot 3)) (eC (.int 1))) aNil))) (aCons (eCall C 23 2 (aCons (eSlot 1) (aCons (eOp oAdd (eUn fLen (eSlot 3)) (eC (.int 1))) aNil))) aNil)))))
    (sSeq (sAsg (gOne 10) (eLst (aCons (eTup (aCons (eSlot 15) (aCons (eSlot 16) aNil))) (aCons (eTup (aCons (eSlot 15) (aCons (eSlot 16) aNil))) (aCons (eTup (aCons (eSlot 16) (aCons (eSlot 15) aNil))) (aCons (eTup (aCons (eSlot 15) (aCons (eSlot 15) aNil))) (aCons (eTup (aCons (eSlot 15) (aCons (eOp oAdd (eSlot 16) (eC (.int 1))) aNil))) (aCons (eTup (aCons (eC (.bl false)) (aCons (eSlot 16) aNil))) (aCons (eTup (aCons (eSlot 15) (aCons (eC (.bl true)) aNil))) aNil)))))))))
    (sSeq (sAsg (gOne 10) (eOp oAdd (eSlot 10) (eLst (aCons (eTup (aCons (eC .non) (aCons (eSlot 16) aNil))) (aCons (eTup (aCons (eSlot 15) (aCons (eC .non) aNil))) (aCons (eTup (aCons (eUn oNeg (eC (.int 1))) (aCons (eSlot 16) aNil))) (aCons (eTup (aCons (eCall C 23 2 (aCons (eSlot 1) (aCons (eC (.int 4)) aNil))) (aCons (eCall C 23 2 (aCons (eSlot 1) (aCons (eC (.int 5)) aNil))) aNil))) aNil)))))))
    (sSeq (sAsg (gTupG [(gOne 11), (gOne 12)]) (eCall C 24 2 (aCons (eSlot 1) (aCons (eSlot 10) aNil))))
    (sSeq (sAsg (gOne 13) (eCall C 24 2 (aCons (eSlot 1) (aCons (eOp oAdd (eOp oMul (eLst (aCons (eNew C 1 2 (aCons (eSlot 11) (aCons (eSlot 12) aNil))) aNil)) (eC (.int 6))) (eLst (aCons (eC .non) (aCons (eSlot 4) (aCons (eSlot 15) aNil))))) aNil))))
    (sSeq (sAsg (gOne 14) (eAnd (eOp (fIsi Γ) (eSlot 13) (eC (.cls 1))) (eAnd (eCall C 26 1 (aCons (eUn (oFld Γ "one") (eSlot 13)) aNil)) (eAnd (eCall C 26 1 (aCons (eUn (oFld Γ "other") (eSlot 13)) aNil)) (eT (tChn (eC (.int 0)) (.more cLe (eUn (oFld Γ "one") (eSlot 13)) (.more cLt (eUn (oFld Γ "other") (eSlot 13)) (.last cLt (eUn fLen (eSlot 3)))))))))))
    (sSeq (sIf (tV (eSlot 14)) (sSeq (sPar [17, 18] (aCons (eOp oIx (eSlot 3) (eUn (oFld Γ "one") (eSlot 13))) (aCons (eOp oIx (eSlot 3) (eUn (oFld Γ "other") (eSlot 13))) aNil)))
    (sAsg (gOne 14) (eT (tCmp (cOwn Γ C "__ne__" cNe) (eOp oMod (eOp oSub (eOp oIx (eSlot 17) (eC (.int 0))) (eOp oIx (eSlot 18) (eC (.int 0)))) (eCall C 27 2 (aCons (eOp oIx (eSlot 17) (eC (.int 1))) (aCons (eOp oIx (eSlot 18) (eC (.int 1))) aNil)))) (eC (.int 0)))))) sNx)
    (sIf (tNot (tV (eCall C 25 2 (aCons (eCall C 21 2 (aCons (eSlot 3) (aCons (eSlot 13) aNil))) (aCons (eSlot 14) aNil))))) (sRet (eC (.bl false))) sNx)))))))))))))))))))))
    (sSeq (sPar [11, 12] (aCons (eNew C 0 2 (aCons (eC (.int 1)) (aCons (eC (.int 2)) aNil))) (aCons (eNew C 1 2 (aCons (eC (.int 1)) (aCons (eC (.int 2)) aNil))) aNil)))
    (sSeq (sIf (tOr (tCmp cIsNot (eT (tCmp (cOwn Γ C "__eq__" cEq) (eSlot 11) (eNew C 0 2 (aCons (eC (.int 1)) (aCons (eC (.int 2)) aNil))))) (eC (.bl true))) (tOr (tCmp cIsNot (eT (tCmp (cOwn Γ C "__ne__" cNe) (eSlot 11) (eNew C 0 2 (aCons (eC (.int 0)) (aCons (eC (.int 2)) aNil))))) (eC (.bl true))) (tOr (tCmp cIsNot (eT (tCmp (cOwn Γ C "__eq__" cEq) (eSlot 11) (eNew C 0 2 (aCons (eC (.int 1)) (aCons (eC (.int 3)) aNil))))) (eC (.bl false))) (tCmp cIsNot (eT (tCmp (cOwn Γ C "__eq__" cEq) (eSlot 11) (eSlot 12))) (eC (.bl false)))))) (sRet (eC (.bl false))) sNx)
    (sRet (eAnd (eT (tCmp cIs (eT (tCmp (cOwn Γ C "__eq__" cEq) (eSlot 12) (eNew C 1 2 (aCons (eC (.int 1)) (aCons (eC (.int 2)) aNil))))) (eC (.bl true)))) (eAnd (eT (tCmp cIs (eT (tCmp (cOwn Γ C "__ne__" cNe) (eSlot 12) (eNew C 1 2 (aCons (eC (.int 0)) (aCons (eC (.int 2)) aNil))))) (eC (.bl true)))) (eAnd (eT (tCmp cIs (eT (tCmp (cOwn Γ C "__eq__" cEq) (eSlot 12) (eNew C 1 2 (aCons (eC (.int 1)) (aCons (eC (.int 3)) aNil))))) (eC (.bl false)))) (eT (tCmp cIs (eT (tCmp (cOwn Γ C "__eq__" cEq) (eSlot 12) (eTup (aCons (eC (.int 1)) (aCons (eC (.int 2)) aNil))))) (eC (.bl false))))))))))))
noncomputable def bs : List (Calls → Sv) := [b_Found_init, b_Found_eq, b_Found_ne, b_Clash_init, b_Clash_eq, b_Clash_ne, b_is_whole, b_as_tuples, b_is_index, b_greatest_divisor, b_is_demand, b_need_demands, b_do_clash, b_first_clash, b_shares_of, b_both_demands, b_found_by, b_found_or_clash, b_meets_by, b_least_by, b_found_holds, b_clash_holds, b__law_pen, b__law_draw, b__law_pick, b__law_is, b__law_whole, b__law_gcd, b__law_demands, b_law]
/-! ### the defs of the row -/
def d_Found_init : He.DefD := ⟨("Found", some ("__init__" : Str)), "__init__", "Found.__init__", defArgs (sub 13 0), defBody (sub 13 0), defScope (sub 13 0), [], []⟩
def d_Found_eq : He.DefD := ⟨("Found", some ("__eq__" : Str)), "__eq__", "Found.__eq__", defArgs (sub 13 1), defBody (sub 13 1), defScope (sub 13 1), [], []⟩
def d_Found_ne : He.DefD := ⟨("Found", some ("__ne__" : Str)), "__ne__", "Found.__ne__", defArgs (sub 13 2), defBody (sub 13 2), defScope (sub 13 2), [], []⟩
def d_Clash_init : He.DefD := ⟨("Clash", some ("__init__" : Str)), "__init__", "Clash.__init__", defArgs (sub 14 0), defBody (sub 14 0), defScope (sub 14 0), [], []⟩
def d_Clash_eq : He.DefD := ⟨("Clash", some ("__eq__" : Str)), "__eq__", "Clash.__eq__", defArgs (sub 14 1), defBody (sub 14 1), defScope (sub 14 1), [], []⟩
def d_Clash_ne : He.DefD := ⟨("Clash", some ("__ne__" : Str)), "__ne__", "Clash.__ne__", defArgs (sub 14 2), defBody (sub 14 2), defScope (sub 14 2), [], []⟩
def d_is_whole : He.DefD := ⟨("is_whole", none), "is_whole", "is_whole", defArgs (top 4), defBody (top 4), defScope (top 4), [], []⟩
def d_as_tuples : He.DefD := ⟨("as_tuples", none), "as_tuples", "as_tuples", defArgs (top 5), defBody (top 5), defScope (top 5), [], []⟩
def d_is_index : He.DefD := ⟨("is_index", none), "is_index", "is_index", defArgs (top 6), defBody (top 6), defScope (top 6), [], []⟩
def d_greatest_divisor : He.DefD := ⟨("greatest_divisor", none), "greatest_divisor", "greatest_divisor", defArgs (top 8), defBody (top 8), defScope (top 8), [], []⟩
def d_is_demand : He.DefD := ⟨("is_demand", none), "is_demand", "is_demand", defArgs (top 15), defBody (top 15), defScope (top 15), [], []⟩
def d_need_demands : He.DefD := ⟨("need_demands", none), "need_demands", "need_demands", defArgs (top 16), defBody (top 16), defScope (top 16), [], []⟩
def d_do_clash : He.DefD := ⟨("do_clash", none), "do_clash", "do_clash", defArgs (top 17), defBody (top 17), defScope (top 17), [], []⟩
def d_first_clash : He.DefD := ⟨("first_clash", none), "first_clash", "first_clash", defArgs (top 18), defBody (top 18), defScope (top 18), [], []⟩
def d_shares_of : He.DefD := ⟨("shares_of", none), "shares_of", "shares_of", defArgs (top 19), defBody (top 19), defScope (top 19), [], []⟩
def d_both_demands : He.DefD := ⟨("both_demands", none), "both_demands", "both_demands", defArgs (top 20), defBody (top 20), defScope (top 20), [], []⟩
def d_found_by : He.DefD := ⟨("found_by", none), "found_by", "found_by", defArgs (top 21), defBody (top 21), defScope (top 21), [], []⟩
def d_found_or_clash : He.DefD := ⟨("found_or_clash", none), "found_or_clash", "found_or_clash", defArgs (top 22), defBody (top 22), defScope (top 22), [], []⟩
def d_meets_by : He.DefD := ⟨("meets_by", none), "meets_by", "meets_by", defArgs (top 23), defBody (top 23), defScope (top 23), [], []⟩
def d_least_by : He.DefD := ⟨("least_by", none), "least_by", "least_by", defArgs (top 24), defBody (top 24), defScope (top 24), [], []⟩
def d_found_holds : He.DefD := ⟨("found_holds", none), "found_holds", "found_holds", defArgs (top 25), defBody (top 25), defScope (top 25), [], []⟩
def d_clash_holds : He.DefD := ⟨("clash_holds", none), "clash_holds", "clash_holds", defArgs (top 26), defBody (top 26), defScope (top 26), [], []⟩
def d__law_pen : He.DefD := ⟨("_law_pen", none), "_law_pen", "_law_pen", defArgs (top 28), defBody (top 28), defScope (top 28), [], []⟩
def d__law_draw : He.DefD := ⟨("_law_draw", none), "_law_draw", "_law_draw", defArgs (top 29), defBody (top 29), defScope (top 29), [], []⟩
def d__law_pick : He.DefD := ⟨("_law_pick", none), "_law_pick", "_law_pick", defArgs (top 30), defBody (top 30), defScope (top 30), [], []⟩
def d__law_is : He.DefD := ⟨("_law_is", none), "_law_is", "_law_is", defArgs (top 31), defBody (top 31), defScope (top 31), [], []⟩
def d__law_whole : He.DefD := ⟨("_law_whole", none), "_law_whole", "_law_whole", defArgs (top 32), defBody (top 32), defScope (top 32), [], []⟩
def d__law_gcd : He.DefD := ⟨("_law_gcd", none), "_law_gcd", "_law_gcd", defArgs (top 33), defBody (top 33), defScope (top 33), [], []⟩
def d__law_demands : He.DefD := ⟨("_law_demands", none), "_law_demands", "_law_demands", defArgs (top 34), defBody (top 34), defScope (top 34), [], []⟩
def d_law : He.DefD := ⟨("law", none), "law", "law", defArgs (top 35), defBody (top 35), defScope (top 35), [], []⟩
def fnl : List He.DefD := [d_Found_init, d_Found_eq, d_Found_ne, d_Clash_init, d_Clash_eq, d_Clash_ne, d_is_whole, d_as_tuples, d_is_index, d_greatest_divisor, d_is_demand, d_need_demands, d_do_clash, d_first_clash, d_shares_of, d_both_demands, d_found_by, d_found_or_clash, d_meets_by, d_least_by, d_found_holds, d_clash_holds, d__law_pen, d__law_draw, d__law_pick, d__law_is, d__law_whole, d__law_gcd, d__law_demands, d_law]
def fk : List (Str × Option Str) := [(("Found" : Str), some ("__init__" : Str)), (("Found" : Str), some ("__eq__" : Str)), (("Found" : Str), some ("__ne__" : Str)), (("Clash" : Str), some ("__init__" : Str)), (("Clash" : Str), some ("__eq__" : Str)), (("Clash" : Str), some ("__ne__" : Str)), (("is_whole" : Str), none), (("as_tuples" : Str), none), (("is_index" : Str), none), (("greatest_divisor" : Str), none), (("is_demand" : Str), none), (("need_demands" : Str), none), (("do_clash" : Str), none), (("first_clash" : Str), none), (("shares_of" : Str), none), (("both_demands" : Str), none), (("found_by" : Str), none), (("found_or_clash" : Str), none), (("meets_by" : Str), none), (("least_by" : Str), none), (("found_holds" : Str), none), (("clash_holds" : Str), none), (("_law_pen" : Str), none), (("_law_draw" : Str), none), (("_law_pick" : Str), none), (("_law_is" : Str), none), (("_law_whole" : Str), none), (("_law_gcd" : Str), none), (("_law_demands" : Str), none), (("law" : Str), none)]
def cn : List Str := ["Found", "Clash"]
theorem sc_Found_init : FnScope ["self", "number", "by"] ["self", "number", "by"] d_Found_init.scope := ⟨rfl, rfl, rfl, by decide +kernel, rfl, by decide +kernel, by decide +kernel⟩
theorem im_Found_init (C : Calls) : compB Γ C ⟨["self", "number", "by"], d_Found_init.scope, true⟩ d_Found_init.body = b_Found_init C := by kernel_rfl
theorem sc_Found_eq : FnScope ["self", "other"] ["self", "other"] d_Found_eq.scope := ⟨rfl, rfl, rfl, by decide +kernel, rfl, by decide +kernel, by decide +kernel⟩
theorem im_Found_eq (C : Calls) : compB Γ C ⟨["self", "other"], d_Found_eq.scope, true⟩ d_Found_eq.body = b_Found_eq C := by kernel_rfl
theorem sc_Found_ne : FnScope ["self", "other"] ["self", "other"] d_Found_ne.scope := ⟨rfl, rfl, rfl, by decide +kernel, rfl, by decide +kernel, by decide +kernel⟩
theorem im_Found_ne (C : Calls) : compB Γ C ⟨["self", "other"], d_Found_ne.scope, true⟩ d_Found_ne.body = b_Found_ne C := by kernel_rfl
theorem sc_Clash_init : FnScope ["self", "one", "other"] ["self", "one", "other"] d_Clash_init.scope := ⟨rfl, rfl, rfl, by decide +kernel, rfl, by decide +kernel, by decide +kernel⟩
theorem im_Clash_init (C : Calls) : compB Γ C ⟨["self", "one", "other"], d_Clash_init.scope, true⟩ d_Clash_init.body = b_Clash_init C := by kernel_rfl
theorem sc_Clash_eq : FnScope ["self", "other"] ["self", "other"] d_Clash_eq.scope := ⟨rfl, rfl, rfl, by decide +kernel, rfl, by decide +kernel, by decide +kernel⟩
theorem im_Clash_eq (C : Calls) : compB Γ C ⟨["self", "other"], d_Clash_eq.scope, true⟩ d_Clash_eq.body = b_Clash_eq C := by kernel_rfl
theorem sc_Clash_ne : FnScope ["self", "other"] ["self", "other"] d_Clash_ne.scope := ⟨rfl, rfl, rfl, by decide +kernel, rfl, by decide +kernel, by decide +kernel⟩
theorem im_Clash_ne (C : Calls) : compB Γ C ⟨["self", "other"], d_Clash_ne.scope, true⟩ d_Clash_ne.body = b_Clash_ne C := by kernel_rfl
theorem sc_is_whole : FnScope ["value"] ["value"] d_is_whole.scope := ⟨rfl, rfl, rfl, by decide +kernel, rfl, by decide +kernel, by decide +kernel⟩
theorem im_is_whole (C : Calls) : compB Γ C ⟨["value"], d_is_whole.scope, true⟩ d_is_whole.body = b_is_whole C := by kernel_rfl
theorem sc_as_tuples : FnScope ["value", "line", "done", "source", "at", "found"] ["value"] d_as_tuples.scope := ⟨rfl, rfl, rfl, by decide +kernel, rfl, by decide +kernel, by decide +kernel⟩
theorem im_as_tuples (C : Calls) : compB Γ C ⟨["value", "line", "done", "source", "at", "found"], d_as_tuples.scope, true⟩ d_as_tuples.body = b_as_tuples C := by kernel_rfl
theorem sc_is_index : FnScope ["value", "many"] ["value", "many"] d_is_index.scope := ⟨rfl, rfl, rfl, by decide +kernel, rfl, by decide +kernel, by decide +kernel⟩
theorem im_is_index (C : Calls) : compB Γ C ⟨["value", "many"], d_is_index.scope, true⟩ d_is_index.body = b_is_index C := by kernel_rfl
theorem sc_greatest_divisor : FnScope ["one", "other"] ["one", "other"] d_greatest_divisor.scope := ⟨rfl, rfl, rfl, by decide +kernel, rfl, by decide +kernel, by decide +kernel⟩
theorem im_greatest_divisor (C : Calls) : compB Γ C ⟨["one", "other"], d_greatest_divisor.scope, true⟩ d_greatest_divisor.body = b_greatest_divisor C := by kernel_rfl
theorem sc_is_demand : FnScope ["value"] ["value"] d_is_demand.scope := ⟨rfl, rfl, rfl, by decide +kernel, rfl, by decide +kernel, by decide +kernel⟩
theorem im_is_demand (C : Calls) : compB Γ C ⟨["value"], d_is_demand.scope, true⟩ d_is_demand.body = b_is_demand C := by kernel_rfl
theorem sc_need_demands : FnScope ["demands", "known", "one"] ["demands"] d_need_demands.scope := ⟨rfl, rfl, rfl, by decide +kernel, rfl, by decide +kernel, by decide +kernel⟩
theorem im_need_demands (C : Calls) : compB Γ C ⟨["demands", "known", "one"], d_need_demands.scope, true⟩ d_need_demands.body = b_need_demands C := by kernel_rfl
theorem sc_do_clash : FnScope ["one", "other"] ["one", "other"] d_do_clash.scope := ⟨rfl, rfl, rfl, by decide +kernel, rfl, by decide +kernel, by decide +kernel⟩
theorem im_do_clash (C : Calls) : compB Γ C ⟨["one", "other"], d_do_clash.scope, true⟩ d_do_clash.body = b_do_clash C := by kernel_rfl
theorem sc_first_clash : FnScope ["demands", "at", "one", "index"] ["demands"] d_first_clash.scope := ⟨rfl, rfl, rfl, by decide +kernel, rfl, by decide +kernel, by decide +kernel⟩
theorem im_first_clash (C : Calls) : compB Γ C ⟨["demands", "at", "one", "index"], d_first_clash.scope, true⟩ d_first_clash.body = b_first_clash C := by kernel_rfl
theorem sc_shares_of : FnScope ["one", "other", "first", "second", "times"] ["one", "other"] d_shares_of.scope := ⟨rfl, rfl, rfl, by decide +kernel, rfl, by decide +kernel, by decide +kernel⟩
theorem im_shares_of (C : Calls) : compB Γ C ⟨["one", "other", "first", "second", "times"], d_shares_of.scope, true⟩ d_shares_of.body = b_shares_of C := by kernel_rfl
theorem sc_both_demands : FnScope ["one", "other", "divisor", "numbers", "by"] ["one", "other"] d_both_demands.scope := ⟨rfl, rfl, rfl, by decide +kernel, rfl, by decide +kernel, by decide +kernel⟩
theorem im_both_demands (C : Calls) : compB Γ C ⟨["one", "other", "divisor", "numbers", "by"], d_both_demands.scope, true⟩ d_both_demands.body = b_both_demands C := by kernel_rfl
theorem sc_found_by : FnScope ["demands", "found", "demand"] ["demands"] d_found_by.scope := ⟨rfl, rfl, rfl, by decide +kernel, rfl, by decide +kernel, by decide +kernel⟩
theorem im_found_by (C : Calls) : compB Γ C ⟨["demands", "found", "demand"], d_found_by.scope, true⟩ d_found_by.body = b_found_by C := by kernel_rfl
theorem sc_found_or_clash : FnScope ["demands", "known", "clash", "number", "by"] ["demands"] d_found_or_clash.scope := ⟨rfl, rfl, rfl, by decide +kernel, rfl, by decide +kernel, by decide +kernel⟩
theorem im_found_or_clash (C : Calls) : compB Γ C ⟨["demands", "known", "clash", "number", "by"], d_found_or_clash.scope, true⟩ d_found_or_clash.body = b_found_or_clash C := by kernel_rfl
theorem sc_meets_by : FnScope ["demands", "number", "left", "by"] ["demands", "number"] d_meets_by.scope := ⟨rfl, rfl, rfl, by decide +kernel, rfl, by decide +kernel, by decide +kernel⟩
theorem im_meets_by (C : Calls) : compB Γ C ⟨["demands", "number", "left", "by"], d_meets_by.scope, true⟩ d_meets_by.body = b_meets_by C := by kernel_rfl
theorem sc_least_by : FnScope ["demands", "found", "left", "by"] ["demands"] d_least_by.scope := ⟨rfl, rfl, rfl, by decide +kernel, rfl, by decide +kernel, by decide +kernel⟩
theorem im_least_by (C : Calls) : compB Γ C ⟨["demands", "found", "left", "by"], d_least_by.scope, true⟩ d_least_by.body = b_least_by C := by kernel_rfl
theorem sc_found_holds : FnScope ["demands", "value", "known"] ["demands", "value"] d_found_holds.scope := ⟨rfl, rfl, rfl, by decide +kernel, rfl, by decide +kernel, by decide +kernel⟩
theorem im_found_holds (C : Calls) : compB Γ C ⟨["demands", "value", "known"], d_found_holds.scope, true⟩ d_found_holds.body = b_found_holds C := by kernel_rfl
theorem sc_clash_holds : FnScope ["demands", "value", "known"] ["demands", "value"] d_clash_holds.scope := ⟨rfl, rfl, rfl, by decide +kernel, rfl, by decide +kernel, by decide +kernel⟩
theorem im_clash_holds (C : Calls) : compB Γ C ⟨["demands", "value", "known"], d_clash_holds.scope, true⟩ d_clash_holds.body = b_clash_holds C := by kernel_rfl
theorem sc__law_pen : FnScope ["script", "fold", "cell"] ["script"] d__law_pen.scope := ⟨rfl, rfl, rfl, by decide +kernel, rfl, by decide +kernel, by decide +kernel⟩
theorem im__law_pen (C : Calls) : compB Γ C ⟨["script", "fold", "cell"], d__law_pen.scope, true⟩ d__law_pen.body = b__law_pen C := by kernel_rfl
theorem sc__law_draw : FnScope ["pen", "many", "cell", "digit", "blend"] ["pen", "many"] d__law_draw.scope := ⟨rfl, rfl, rfl, by decide +kernel, rfl, by decide +kernel, by decide +kernel⟩
theorem im__law_draw (C : Calls) : compB Γ C ⟨["pen", "many", "cell", "digit", "blend"], d__law_draw.scope, true⟩ d__law_draw.body = b__law_draw C := by kernel_rfl
theorem sc__law_pick : FnScope ["pen", "some"] ["pen", "some"] d__law_pick.scope := ⟨rfl, rfl, rfl, by decide +kernel, rfl, by decide +kernel, by decide +kernel⟩
theorem im__law_pick (C : Calls) : compB Γ C ⟨["pen", "some"], d__law_pick.scope, true⟩ d__law_pick.body = b__law_pick C := by kernel_rfl
theorem sc__law_is : FnScope ["told", "due", "at"] ["told", "due"] d__law_is.scope := ⟨rfl, rfl, rfl, by decide +kernel, rfl, by decide +kernel, by decide +kernel⟩
theorem im__law_is (C : Calls) : compB Γ C ⟨["told", "due", "at"], d__law_is.scope, true⟩ d__law_is.body = b__law_is C := by kernel_rfl
theorem sc__law_whole : FnScope ["value"] ["value"] d__law_whole.scope := ⟨rfl, rfl, rfl, by decide +kernel, rfl, by decide +kernel, by decide +kernel⟩
theorem im__law_whole (C : Calls) : compB Γ C ⟨["value"], d__law_whole.scope, true⟩ d__law_whole.body = b__law_whole C := by kernel_rfl
theorem sc__law_gcd : FnScope ["one", "other"] ["one", "other"] d__law_gcd.scope := ⟨rfl, rfl, rfl, by decide +kernel, rfl, by decide +kernel, by decide +kernel⟩
theorem im__law_gcd (C : Calls) : compB Γ C ⟨["one", "other"], d__law_gcd.scope, true⟩ d__law_gcd.body = b__law_gcd C := by kernel_rfl
theorem sc__law_demands : FnScope ["pen", "way", "number", "found", "lap", "by", "at"] ["pen"] d__law_demands.scope := ⟨rfl, rfl, rfl, by decide +kernel, rfl, by decide +kernel, by decide +kernel⟩
theorem im__law_demands (C : Calls) : compB Γ C ⟨["pen", "way", "number", "found", "lap", "by", "at"], d__law_demands.scope, true⟩ d__law_demands.body = b__law_demands C := by kernel_rfl
theorem sc_law : FnScope ["script", "pen", "lap", "demands", "told", "by", "left", "own", "turn", "number", "some", "one", "two", "value", "good", "at", "index", "first", "second"] ["script"] d_law.scope := ⟨rfl, rfl, rfl, by decide +kernel, rfl, by decide +kernel, by decide +kernel⟩
theorem im_law (C : Calls) : compB Γ C ⟨["script", "pen", "lap", "demands", "told", "by", "left", "own", "turn", "number", "some", "one", "two", "value", "good", "at", "index", "first", "second"], d_law.scope, true⟩ d_law.body = b_law C := by kernel_rfl
section
variable {K : PySem.W.Frag}
theorem df_Found_init (c : He.SaysD [] fnl K) : DefF Γ (gwOf Γ fk cn K) 0 ⟨["self", "number", "by"], ["self", "number", "by"]⟩ b_Found_init :=
  defF_of (d := d_Found_init) rfl (c.def_ 0 rfl) rfl rfl sc_Found_init (fun _ _ _ _ _ _ us hl => match us, hl with | [_, _, _], _ => rfl) im_Found_init
theorem df_Found_eq (c : He.SaysD [] fnl K) : DefF Γ (gwOf Γ fk cn K) 1 ⟨["self", "other"], ["self", "other"]⟩ b_Found_eq :=
  defF_of (d := d_Found_eq) rfl (c.def_ 1 rfl) rfl rfl sc_Found_eq (fun _ _ _ _ _ _ us hl => match us, hl with | [_, _], _ => rfl) im_Found_eq
theorem df_Found_ne (c : He.SaysD [] fnl K) : DefF Γ (gwOf Γ fk cn K) 2 ⟨["self", "other"], ["self", "other"]⟩ b_Found_ne :=
  defF_of (d := d_Found_ne) rfl (c.def_ 2 rfl) rfl rfl sc_Found_ne (fun _ _ _ _ _ _ us hl => match us, hl with | [_, _], _ => rfl) im_Found_ne
theorem df_Clash_init (c : He.SaysD [] fnl K) : DefF Γ (gwOf Γ fk cn K) 3 ⟨["self", "one", "other"], ["self", "one", "other"]⟩ b_Clash_init :=
  defF_of (d := d_Clash_init) rfl (c.def_ 3 rfl) rfl rfl sc_Clash_init (fun _ _ _ _ _ _ us hl => match us, hl with | [_, _, _], _ => rfl) im_Clash_init
theorem df_Clash_eq (c : He.SaysD [] fnl K) : DefF Γ (gwOf Γ fk cn K) 4 ⟨["self", "other"], ["self", "other"]⟩ b_Clash_eq :=
  defF_of (d := d_Clash_eq) rfl (c.def_ 4 rfl) rfl rfl sc_Clash_eq (fun _ _ _ _ _ _ us hl => match us, hl with | [_, _], _ => rfl) im_Clash_eq
theorem df_Clash_ne (c : He.SaysD [] fnl K) : DefF Γ (gwOf Γ fk cn K) 5 ⟨["self", "other"], ["self", "other"]⟩ b_Clash_ne :=
  defF_of (d := d_Clash_ne) rfl (c.def_ 5 rfl) rfl rfl sc_Clash_ne (fun _ _ _ _ _ _ us hl => match us, hl with | [_, _], _ => rfl) im_Clash_ne
theorem df_is_whole (c : He.SaysD [] fnl K) : DefF Γ (gwOf Γ fk cn K) 6 ⟨["value"], ["value"]⟩ b_is_whole :=
  defF_of (d := d_is_whole) rfl (c.def_ 6 rfl) rfl rfl sc_is_whole (fun _ _ _ _ _ _ us hl => match us, hl with | [_], _ => rfl) im_is_whole
theorem df_as_tuples (c : He.SaysD [] fnl K) : DefF Γ (gwOf Γ fk cn K) 7 ⟨["value"], ["value", "line", "done", "source", "at", "found"]⟩ b_as_tuples :=
  defF_of (d := d_as_tuples) rfl (c.def_ 7 rfl) rfl rfl sc_as_tuples (fun _ _ _ _ _ _ us hl => match us, hl with | [_], _ => rfl) im_as_tuples
theorem df_is_index (c : He.SaysD [] fnl K) : DefF Γ (gwOf Γ fk cn K) 8 ⟨["value", "many"], ["value", "many"]⟩ b_is_index :=
  defF_of (d := d_is_index) rfl (c.def_ 8 rfl) rfl rfl sc_is_index (fun _ _ _ _ _ _ us hl => match us, hl with | [_, _], _ => rfl) im_is_index
theorem df_greatest_divisor (c : He.SaysD [] fnl K) : DefF Γ (gwOf Γ fk cn K) 9 ⟨["one", "other"], ["one", "other"]⟩ b_greatest_divisor :=
  defF_of (d := d_greatest_divisor) rfl (c.def_ 9 rfl) rfl rfl sc_greatest_divisor (fun _ _ _ _ _ _ us hl => match us, hl with | [_, _], _ => rfl) im_greatest_divisor
theorem df_is_demand (c : He.SaysD [] fnl K) : DefF Γ (gwOf Γ fk cn K) 10 ⟨["value"], ["value"]⟩ b_is_demand :=
  defF_of (d := d_is_demand) rfl (c.def_ 10 rfl) rfl rfl sc_is_demand (fun _ _ _ _ _ _ us hl => match us, hl with | [_], _ => rfl) im_is_demand
theorem df_need_demands (c : He.SaysD [] fnl K) : DefF Γ (gwOf Γ fk cn K) 11 ⟨["demands"], ["demands", "known", "one"]⟩ b_need_demands :=
  defF_of (d := d_need_demands) rfl (c.def_ 11 rfl) rfl rfl sc_need_demands (fun _ _ _ _ _ _ us hl => match us, hl with | [_], _ => rfl) im_need_demands
theorem df_do_clash (c : He.SaysD [] fnl K) : DefF Γ (gwOf Γ fk cn K) 12 ⟨["one", "other"], ["one", "other"]⟩ b_do_clash :=
  defF_of (d := d_do_clash) rfl (c.def_ 12 rfl) rfl rfl sc_do_clash (fun _ _ _ _ _ _ us hl => match us, hl with | [_, _], _ => rfl) im_do_clash
theorem df_first_clash (c : He.SaysD [] fnl K) : DefF Γ (gwOf Γ fk cn K) 13 ⟨["demands"], ["demands", "at", "one", "index"]⟩ b_first_clash :=
  defF_of (d := d_first_clash) rfl (c.def_ 13 rfl) rfl rfl sc_first_clash (fun _ _ _ _ _ _ us hl => match us, hl with | [_], _ => rfl) im_first_clash
theorem df_shares_of (c : He.SaysD [] fnl K) : DefF Γ (gwOf Γ fk cn K) 14 ⟨["one", "other"], ["one", "other", "first", "second", "times"]⟩ b_shares_of :=
  defF_of (d := d_shares_of) rfl (c.def_ 14 rfl) rfl rfl sc_shares_of (fun _ _ _ _ _ _ us hl => match us, hl with | [_, _], _ => rfl) im_shares_of
theorem df_both_demands (c : He.SaysD [] fnl K) : DefF Γ (gwOf Γ fk cn K) 15 ⟨["one", "other"], ["one", "other", "divisor", "numbers", "by"]⟩ b_both_demands :=
  defF_of (d := d_both_demands) rfl (c.def_ 15 rfl) rfl rfl sc_both_demands (fun _ _ _ _ _ _ us hl => match us, hl with | [_, _], _ => rfl) im_both_demands
theorem df_found_by (c : He.SaysD [] fnl K) : DefF Γ (gwOf Γ fk cn K) 16 ⟨["demands"], ["demands", "found", "demand"]⟩ b_found_by :=
  defF_of (d := d_found_by) rfl (c.def_ 16 rfl) rfl rfl sc_found_by (fun _ _ _ _ _ _ us hl => match us, hl with | [_], _ => rfl) im_found_by
theorem df_found_or_clash (c : He.SaysD [] fnl K) : DefF Γ (gwOf Γ fk cn K) 17 ⟨["demands"], ["demands", "known", "clash", "number", "by"]⟩ b_found_or_clash :=
  defF_of (d := d_found_or_clash) rfl (c.def_ 17 rfl) rfl rfl sc_found_or_clash (fun _ _ _ _ _ _ us hl => match us, hl with | [_], _ => rfl) im_found_or_clash
theorem df_meets_by (c : He.SaysD [] fnl K) : DefF Γ (gwOf Γ fk cn K) 18 ⟨["demands", "number"], ["demands", "number", "left", "by"]⟩ b_meets_by :=
  defF_of (d := d_meets_by) rfl (c.def_ 18 rfl) rfl rfl sc_meets_by (fun _ _ _ _ _ _ us hl => match us, hl with | [_, _], _ => rfl) im_meets_by
theorem df_least_by (c : He.SaysD [] fnl K) : DefF Γ (gwOf Γ fk cn K) 19 ⟨["demands"], ["demands", "found", "left", "by"]⟩ b_least_by :=
  defF_of (d := d_least_by) rfl (c.def_ 19 rfl) rfl rfl sc_least_by (fun _ _ _ _ _ _ us hl => match us, hl with | [_], _ => rfl) im_least_by
theorem df_found_holds (c : He.SaysD [] fnl K) : DefF Γ (gwOf Γ fk cn K) 20 ⟨["demands", "value"], ["demands", "value", "known"]⟩ b_found_holds :=
  defF_of (d := d_found_holds) rfl (c.def_ 20 rfl) rfl rfl sc_found_holds (fun _ _ _ _ _ _ us hl => match us, hl with | [_, _], _ => rfl) im_found_holds
theorem df_clash_holds (c : He.SaysD [] fnl K) : DefF Γ (gwOf Γ fk cn K) 21 ⟨["demands", "value"], ["demands", "value", "known"]⟩ b_clash_holds :=
  defF_of (d := d_clash_holds) rfl (c.def_ 21 rfl) rfl rfl sc_clash_holds (fun _ _ _ _ _ _ us hl => match us, hl with | [_, _], _ => rfl) im_clash_holds
theorem df__law_pen (c : He.SaysD [] fnl K) : DefF Γ (gwOf Γ fk cn K) 22 ⟨["script"], ["script", "fold", "cell"]⟩ b__law_pen :=
  defF_of (d := d__law_pen) rfl (c.def_ 22 rfl) rfl rfl sc__law_pen (fun _ _ _ _ _ _ us hl => match us, hl with | [_], _ => rfl) im__law_pen
theorem df__law_draw (c : He.SaysD [] fnl K) : DefF Γ (gwOf Γ fk cn K) 23 ⟨["pen", "many"], ["pen", "many", "cell", "digit", "blend"]⟩ b__law_draw :=
  defF_of (d := d__law_draw) rfl (c.def_ 23 rfl) rfl rfl sc__law_draw (fun _ _ _ _ _ _ us hl => match us, hl with | [_, _], _ => rfl) im__law_draw
theorem df__law_pick (c : He.SaysD [] fnl K) : DefF Γ (gwOf Γ fk cn K) 24 ⟨["pen", "some"], ["pen", "some"]⟩ b__law_pick :=
  defF_of (d := d__law_pick) rfl (c.def_ 24 rfl) rfl rfl sc__law_pick (fun _ _ _ _ _ _ us hl => match us, hl with | [_, _], _ => rfl) im__law_pick
theorem df__law_is (c : He.SaysD [] fnl K) : DefF Γ (gwOf Γ fk cn K) 25 ⟨["told", "due"], ["told", "due", "at"]⟩ b__law_is :=
  defF_of (d := d__law_is) rfl (c.def_ 25 rfl) rfl rfl sc__law_is (fun _ _ _ _ _ _ us hl => match us, hl with | [_, _], _ => rfl) im__law_is
theorem df__law_whole (c : He.SaysD [] fnl K) : DefF Γ (gwOf Γ fk cn K) 26 ⟨["value"], ["value"]⟩ b__law_whole :=
  defF_of (d := d__law_whole) rfl (c.def_ 26 rfl) rfl rfl sc__law_whole (fun _ _ _ _ _ _ us hl => match us, hl with | [_], _ => rfl) im__law_whole
theorem df__law_gcd (c : He.SaysD [] fnl K) : DefF Γ (gwOf Γ fk cn K) 27 ⟨["one", "other"], ["one", "other"]⟩ b__law_gcd :=
  defF_of (d := d__law_gcd) rfl (c.def_ 27 rfl) rfl rfl sc__law_gcd (fun _ _ _ _ _ _ us hl => match us, hl with | [_, _], _ => rfl) im__law_gcd
theorem df__law_demands (c : He.SaysD [] fnl K) : DefF Γ (gwOf Γ fk cn K) 28 ⟨["pen"], ["pen", "way", "number", "found", "lap", "by", "at"]⟩ b__law_demands :=
  defF_of (d := d__law_demands) rfl (c.def_ 28 rfl) rfl rfl sc__law_demands (fun _ _ _ _ _ _ us hl => match us, hl with | [_], _ => rfl) im__law_demands
theorem df_law (c : He.SaysD [] fnl K) : DefF Γ (gwOf Γ fk cn K) 29 ⟨["script"], ["script", "pen", "lap", "demands", "told", "by", "left", "own", "turn", "number", "some", "one", "two", "value", "good", "at", "index", "first", "second"]⟩ b_law :=
  defF_of (d := d_law) rfl (c.def_ 29 rfl) rfl rfl sc_law (fun _ _ _ _ _ _ us hl => match us, hl with | [_], _ => rfl) im_law
end
theorem defs_ok {K : PySem.W.Frag} (c : He.SaysD [] fnl K) : ∀ (i : Nat) f, Γ.fns[i]? = some f → ∃ b, bs[i]? = some b ∧ DefF Γ (gwOf Γ fk cn K) i f b
  | 0, _, h => by cases h; exact ⟨_, rfl, df_Found_init c⟩
  | 1, _, h => by cases h; exact ⟨_, rfl, df_Found_eq c⟩
  | 2, _, h => by cases h; exact ⟨_, rfl, df_Found_ne c⟩
  | 3, _, h => by cases h; exact ⟨_, rfl, df_Clash_init c⟩
  | 4, _, h => by cases h; exact ⟨_, rfl, df_Clash_eq c⟩
  | 5, _, h => by cases h; exact ⟨_, rfl, df_Clash_ne c⟩
  | 6, _, h => by cases h; exact ⟨_, rfl, df_is_whole c⟩
  | 7, _, h => by cases h; exact ⟨_, rfl, df_as_tuples c⟩
  | 8, _, h => by cases h; exact ⟨_, rfl, df_is_index c⟩
  | 9, _, h => by cases h; exact ⟨_, rfl, df_greatest_divisor c⟩
  | 10, _, h => by cases h; exact ⟨_, rfl, df_is_demand c⟩
  | 11, _, h => by cases h; exact ⟨_, rfl, df_need_demands c⟩
  | 12, _, h => by cases h; exact ⟨_, rfl, df_do_clash c⟩
  | 13, _, h => by cases h; exact ⟨_, rfl, df_first_clash c⟩
  | 14, _, h => by cases h; exact ⟨_, rfl, df_shares_of c⟩
  | 15, _, h => by cases h; exact ⟨_, rfl, df_both_demands c⟩
  | 16, _, h => by cases h; exact ⟨_, rfl, df_found_by c⟩
  | 17, _, h => by cases h; exact ⟨_, rfl, df_found_or_clash c⟩
  | 18, _, h => by cases h; exact ⟨_, rfl, df_meets_by c⟩
  | 19, _, h => by cases h; exact ⟨_, rfl, df_least_by c⟩
  | 20, _, h => by cases h; exact ⟨_, rfl, df_found_holds c⟩
  | 21, _, h => by cases h; exact ⟨_, rfl, df_clash_holds c⟩
  | 22, _, h => by cases h; exact ⟨_, rfl, df__law_pen c⟩
  | 23, _, h => by cases h; exact ⟨_, rfl, df__law_draw c⟩
  | 24, _, h => by cases h; exact ⟨_, rfl, df__law_pick c⟩
  | 25, _, h => by cases h; exact ⟨_, rfl, df__law_is c⟩
  | 26, _, h => by cases h; exact ⟨_, rfl, df__law_whole c⟩
  | 27, _, h => by cases h; exact ⟨_, rfl, df__law_gcd c⟩
  | 28, _, h => by cases h; exact ⟨_, rfl, df__law_demands c⟩
  | 29, _, h => by cases h; exact ⟨_, rfl, df_law c⟩
  | _ + 30, _, h => by cases h
/-! ### the head -/
abbrev lse : List Str := (["SumError", "BadRow", "is_whole", "as_tuples", "is_index", "greatest_divisor", "MOST_DEMANDS", "MOST_LEFT", "MOST_BY", "Found", "Clash", "is_demand", "need_demands", "do_clash", "first_clash", "shares_of", "both_demands", "found_by", "found_or_clash", "meets_by", "least_by", "found_holds", "clash_holds", "_law_pen", "_law_draw", "_law_pick", "_law_is", "_law_whole", "_law_gcd", "_law_demands"] : List Str)
abbrev RowL : PySem.W.OpenRow := PySem.W.OpenLaw.row PySem.Challenge.rw_sumsmade_k72_leftovers_bent
abbrev hk : PySem.W.Hook := He.hookX 6 [] fnl [] [] (wfB Γ fk cn)
def ob (s : PySem.W.SharedT) : He.AlX := He.obsX 6 [] fnl [] [] (wfB Γ fk cn) (HandSHeadRun.getT s)
theorem ob_eq (s : PySem.W.SharedT) : ob s = hk.obs s.abs := He.obsX_eq (HandSHeadRun.getT_eq s)
theorem run (w : World) : HandSHeadRun.RunEq RowL (PySem.W.view RowL.prog [35]) hk ob 4000 lse w := by
  intro os
  kernel_rfl

open PySem PySem.W PySem.Calls PyProof.Rows in
theorem holds (hL : ∀ ns : List Int, ns.length ≤ 63 → (∀ z ∈ ns, Builtin.Int.intBits z ≤ 1048576) → ∃ S', (callsAt Γ bs 40).fn 29 [.flst (ns.map .int)] [] = some (.ok (.bl true) S')) : PySem.Challenge.rw_sumsmade_k72_leftovers_bent.Holds := by
  w_on; o_law
  refine HandSHeadRun.head_any (r := OpenLaw.row PySem.Challenge.rw_sumsmade_k72_leftovers_bent) (q := view (OpenLaw.row PySem.Challenge.rw_sumsmade_k72_leftovers_bent).prog [35]) (H := hk) (ob := ob) (M := 4000) (loose := lse) (d := HandSHeadRun.topDef (OpenLaw.row PySem.Challenge.rw_sumsmade_k72_leftovers_bent).prog 35) (kwd := []) ob_eq
    (by kernel_rfl) (fun s => by kernel_rfl) run (by kernel_rfl) (by kernel_rfl) (by kernel_rfl) (by rfl) (by first | assumption | decide +kernel) (by decide +kernel) ⟨rfl, rfl, rfl, rfl, rfl, by decide +kernel⟩ ?hw ?hc
  case hw => w_witness2
  case hc =>
    refine walk_ofM (l := PySem.Challenge.rw_sumsmade_k72_leftovers_bent) (n := 63) (k := 39) (x := "script") (Γ := Γ) (bs := bs) (iL := 29) rfl (by decide) (by kernel_rfl) ⟨rfl, by decide, by decide⟩ rfl rfl ?F hL
    intro w mg fa h Y G hmg0
    obtain ⟨K, KX, c⟩ := Y
    have hmg : mg ("law" : PySem.Str) = some (.ref fa) := by
      have e : (HandSHeadRun.topDef (OpenLaw.row PySem.Challenge.rw_sumsmade_k72_leftovers_bent).prog 35).name = ("law" : PySem.Str) := by kernel_rfl
      rw [← e]
      exact hmg0
    refine ⟨gwOf Γ fk cn K, KX, ?_, fun base hb hm => wf_of hb hm c.more, defs_ok c.t.d⟩
    have h1 := (wf_of KX G c.more).fn "law" 29 (by rfl)
    rw [hmg] at h1
    cases h1.1
    rfl

section
variable {k : Nat} {S : Store} {Q : D → Store → Prop}
noncomputable abbrev CC (k : Nat) : Calls := callsAt Γ bs k
def isW : D → Bool
  | .int _ => true
  | _ => false
/-- what may stand as a number -/
def simpD : D → Prop
  | .non => True
  | .bl _ => True
  | .int _ => True
  | _ => False
theorem e_whole {d : D} (hd : simpD d) : (CC (k + 1)).fn 6 [d] S = some (.ok (.bl (isW d)) S) := by
  refine fn_eq (PM_fn rfl rfl rfl ?_)
  unfold b_is_whole
  cases d with
  | non => simp only [PM_ret, PM_bind, PM_guard, PM_slot', PM_eC, PM_eOp, PM_eUn, PM_eT, PM_tV, PM_eAnd, PM_eOr, PM_tAnd, PM_tOr, PM_tNot, PM_eIf, PM_tIf, PM_tCmp, PM_tChn, PM_last, PM_more, PM_aNil, PM_aCons, PM_eTup, PM_eLst, PM_eCall, PM_eNew, PM_eDrop, PM_add, PM_sub, PM_mul, PM_fdiv, PM_mod, PM_pow, PM_neg, PM_lt, PM_le, PM_gt, PM_ge, PM_eqi, PM_nei, own_int, own_bl, own_tup, own_str, PM_isNon, PM_isBl, PM_isnot, PM_tbl, PM_tint, PM_tnon, PM_ttup, PM_lenT, PM_lenF, PM_int, PM_abs, PM_tupT, PM_lstF, PM_ixT, PM_eM, PM_iSeq, PM_seqT, PM_seqF, PM_rng1, PM_rng2, PM_enum, PZ_bind, PZ_nx, PZ_bk, PZ_ct, PZ_rt, SQ_nx, SQ_rt, SQ_ct, SQ_bk, TQ_nx, TQ_ct, TQ_bk, TQ_rt, PZ_seq, PZ_ret, PZ_drop, PZ_if, PZ_asg, PZ_one, PZ_par, PZ_allN, PZ_allC, PZ_tup, PZ_sub, PZ_fld, PZ_for, List.getElem?_cons_zero, List.getElem?_cons_succ, Option.some.injEq, exists_eq_left', exists_eq_left, List.set_cons_zero, List.set_cons_succ, setAll, List.length_cons, List.length_nil, List.map_cons, List.map_nil, Nat.reduceAdd, Nat.reduceSub, List.replicate, List.cons_append, List.nil_append, true_and, and_true, Bool.not_true, Bool.not_false, if_true, if_false, Bool.false_eq_true, D.int.injEq, D.isNon, D.isBl, Nat.reduceLeDiff, dropR_len, Nat.le_refl, ite_true, ite_false, reduceCtorEq, PM_isiN, PM_isiB, PM_isiI, PM_isiS, PM_isiT, isT_ty, bs_NoneType_NoneType, bs_NoneType_bool, bs_NoneType_int, bs_NoneType_str, bs_NoneType_list, bs_NoneType_tuple, bs_NoneType_dict, bs_bool_NoneType, bs_bool_bool, bs_bool_int, bs_bool_str, bs_bool_list, bs_bool_tuple, bs_bool_dict, bs_int_NoneType, bs_int_bool, bs_int_int, bs_int_str, bs_int_list, bs_int_tuple, bs_int_dict, bs_str_NoneType, bs_str_bool, bs_str_int, bs_str_str, bs_str_list, bs_str_tuple, bs_str_dict, bs_list_NoneType, bs_list_bool, bs_list_int, bs_list_str, bs_list_list, bs_list_tuple, bs_list_dict, bs_tuple_NoneType, bs_tuple_bool, bs_tuple_int, bs_tuple_str, bs_tuple_list, bs_tuple_tuple, bs_tuple_dict, bs_dict_NoneType, bs_dict_bool, bs_dict_int, bs_dict_str, bs_dict_list, bs_dict_tuple, bs_dict_dict]; rfl
  | bl b => simp only [PM_ret, PM_bind, PM_guard, PM_slot', PM_eC, PM_eOp, PM_eUn, PM_eT, PM_tV, PM_eAnd, PM_eOr, PM_tAnd, PM_tOr, PM_tNot, PM_eIf, PM_tIf, PM_tCmp, PM_tChn, PM_last, PM_more, PM_aNil, PM_aCons, PM_eTup, PM_eLst, PM_eCall, PM_eNew, PM_eDrop, PM_add, PM_sub, PM_mul, PM_fdiv, PM_mod, PM_pow, PM_neg, PM_lt, PM_le, PM_gt, PM_ge, PM_eqi, PM_nei, own_int, own_bl, own_tup, own_str, PM_isNon, PM_isBl, PM_isnot, PM_tbl, PM_tint, PM_tnon, PM_ttup, PM_lenT, PM_lenF, PM_int, PM_abs, PM_tupT, PM_lstF, PM_ixT, PM_eM, PM_iSeq, PM_seqT, PM_seqF, PM_rng1, PM_rng2, PM_enum, PZ_bind, PZ_nx, PZ_bk, PZ_ct, PZ_rt, SQ_nx, SQ_rt, SQ_ct, SQ_bk, TQ_nx, TQ_ct, TQ_bk, TQ_rt, PZ_seq, PZ_ret, PZ_drop, PZ_if, PZ_asg, PZ_one, PZ_par, PZ_allN, PZ_allC, PZ_tup, PZ_sub, PZ_fld, PZ_for, List.getElem?_cons_zero, List.getElem?_cons_succ, Option.some.injEq, exists_eq_left', exists_eq_left, List.set_cons_zero, List.set_cons_succ, setAll, List.length_cons, List.length_nil, List.map_cons, List.map_nil, Nat.reduceAdd, Nat.reduceSub, List.replicate, List.cons_append, List.nil_append, true_and, and_true, Bool.not_true, Bool.not_false, if_true, if_false, Bool.false_eq_true, D.int.injEq, D.isNon, D.isBl, Nat.reduceLeDiff, dropR_len, Nat.le_refl, ite_true, ite_false, reduceCtorEq, PM_isiN, PM_isiB, PM_isiI, PM_isiS, PM_isiT, isT_ty, bs_NoneType_NoneType, bs_NoneType_bool, bs_NoneType_int, bs_NoneType_str, bs_NoneType_list, bs_NoneType_tuple, bs_NoneType_dict, bs_bool_NoneType, bs_bool_bool, bs_bool_int, bs_bool_str, bs_bool_list, bs_bool_tuple, bs_bool_dict, bs_int_NoneType, bs_int_bool, bs_int_int, bs_int_str, bs_int_list, bs_int_tuple, bs_int_dict, bs_str_NoneType, bs_str_bool, bs_str_int, bs_str_str, bs_str_list, bs_str_tuple, bs_str_dict, bs_list_NoneType, bs_list_bool, bs_list_int, bs_list_str, bs_list_list, bs_list_tuple, bs_list_dict, bs_tuple_NoneType, bs_tuple_bool, bs_tuple_int, bs_tuple_str, bs_tuple_list, bs_tuple_tuple, bs_tuple_dict, bs_dict_NoneType, bs_dict_bool, bs_dict_int, bs_dict_str, bs_dict_list, bs_dict_tuple, bs_dict_dict]; rfl
  | int i => simp only [PM_ret, PM_bind, PM_guard, PM_slot', PM_eC, PM_eOp, PM_eUn, PM_eT, PM_tV, PM_eAnd, PM_eOr, PM_tAnd, PM_tOr, PM_tNot, PM_eIf, PM_tIf, PM_tCmp, PM_tChn, PM_last, PM_more, PM_aNil, PM_aCons, PM_eTup, PM_eLst, PM_eCall, PM_eNew, PM_eDrop, PM_add, PM_sub, PM_mul, PM_fdiv, PM_mod, PM_pow, PM_neg, PM_lt, PM_le, PM_gt, PM_ge, PM_eqi, PM_nei, own_int, own_bl, own_tup, own_str, PM_isNon, PM_isBl, PM_isnot, PM_tbl, PM_tint, PM_tnon, PM_ttup, PM_lenT, PM_lenF, PM_int, PM_abs, PM_tupT, PM_lstF, PM_ixT, PM_eM, PM_iSeq, PM_seqT, PM_seqF, PM_rng1, PM_rng2, PM_enum, PZ_bind, PZ_nx, PZ_bk, PZ_ct, PZ_rt, SQ_nx, SQ_rt, SQ_ct, SQ_bk, TQ_nx, TQ_ct, TQ_bk, TQ_rt, PZ_seq, PZ_ret, PZ_drop, PZ_if, PZ_asg, PZ_one, PZ_par, PZ_allN, PZ_allC, PZ_tup, PZ_sub, PZ_fld, PZ_for, List.getElem?_cons_zero, List.getElem?_cons_succ, Option.some.injEq, exists_eq_left', exists_eq_left, List.set_cons_zero, List.set_cons_succ, setAll, List.length_cons, List.length_nil, List.map_cons, List.map_nil, Nat.reduceAdd, Nat.reduceSub, List.replicate, List.cons_append, List.nil_append, true_and, and_true, Bool.not_true, Bool.not_false, if_true, if_false, Bool.false_eq_true, D.int.injEq, D.isNon, D.isBl, Nat.reduceLeDiff, dropR_len, Nat.le_refl, ite_true, ite_false, reduceCtorEq, PM_isiN, PM_isiB, PM_isiI, PM_isiS, PM_isiT, isT_ty, bs_NoneType_NoneType, bs_NoneType_bool, bs_NoneType_int, bs_NoneType_str, bs_NoneType_list, bs_NoneType_tuple, bs_NoneType_dict, bs_bool_NoneType, bs_bool_bool, bs_bool_int, bs_bool_str, bs_bool_list, bs_bool_tuple, bs_bool_dict, bs_int_NoneType, bs_int_bool, bs_int_int, bs_int_str, bs_int_list, bs_int_tuple, bs_int_dict, bs_str_NoneType, bs_str_bool, bs_str_int, bs_str_str, bs_str_list, bs_str_tuple, bs_str_dict, bs_list_NoneType, bs_list_bool, bs_list_int, bs_list_str, bs_list_list, bs_list_tuple, bs_list_dict, bs_tuple_NoneType, bs_tuple_bool, bs_tuple_int, bs_tuple_str, bs_tuple_list, bs_tuple_tuple, bs_tuple_dict, bs_dict_NoneType, bs_dict_bool, bs_dict_int, bs_dict_str, bs_dict_list, bs_dict_tuple, bs_dict_dict]; rfl
  | _ => exact hd.elim
theorem e_lwhole {d : D} (hd : simpD d) : (CC (k + 1)).fn 26 [d] S = some (.ok (.bl (isW d)) S) := by
  refine fn_eq (PM_fn rfl rfl rfl ?_)
  unfold b__law_whole
  cases d with
  | non => simp only [PM_ret, PM_bind, PM_guard, PM_slot', PM_eC, PM_eOp, PM_eUn, PM_eT, PM_tV, PM_eAnd, PM_eOr, PM_tAnd, PM_tOr, PM_tNot, PM_eIf, PM_tIf, PM_tCmp, PM_tChn, PM_last, PM_more, PM_aNil, PM_aCons, PM_eTup, PM_eLst, PM_eCall, PM_eNew, PM_eDrop, PM_add, PM_sub, PM_mul, PM_fdiv, PM_mod, PM_pow, PM_neg, PM_lt, PM_le, PM_gt, PM_ge, PM_eqi, PM_nei, own_int, own_bl, own_tup, own_str, PM_isNon, PM_isBl, PM_isnot, PM_tbl, PM_tint, PM_tnon, PM_ttup, PM_lenT, PM_lenF, PM_int, PM_abs, PM_tupT, PM_lstF, PM_ixT, PM_eM, PM_iSeq, PM_seqT, PM_seqF, PM_rng1, PM_rng2, PM_enum, PZ_bind, PZ_nx, PZ_bk, PZ_ct, PZ_rt, SQ_nx, SQ_rt, SQ_ct, SQ_bk, TQ_nx, TQ_ct, TQ_bk, TQ_rt, PZ_seq, PZ_ret, PZ_drop, PZ_if, PZ_asg, PZ_one, PZ_par, PZ_allN, PZ_allC, PZ_tup, PZ_sub, PZ_fld, PZ_for, List.getElem?_cons_zero, List.getElem?_cons_succ, Option.some.injEq, exists_eq_left', exists_eq_left, List.set_cons_zero, List.set_cons_succ, setAll, List.length_cons, List.length_nil, List.map_cons, List.map_nil, Nat.reduceAdd, Nat.reduceSub, List.replicate, List.cons_append, List.nil_append, true_and, and_true, Bool.not_true, Bool.not_false, if_true, if_false, Bool.false_eq_true, D.int.injEq, D.isNon, D.isBl, Nat.reduceLeDiff, dropR_len, Nat.le_refl, ite_true, ite_false, reduceCtorEq, PM_isiN, PM_isiB, PM_isiI, PM_isiS, PM_isiT, isT_ty, bs_NoneType_NoneType, bs_NoneType_bool, bs_NoneType_int, bs_NoneType_str, bs_NoneType_list, bs_NoneType_tuple, bs_NoneType_dict, bs_bool_NoneType, bs_bool_bool, bs_bool_int, bs_bool_str, bs_bool_list, bs_bool_tuple, bs_bool_dict, bs_int_NoneType, bs_int_bool, bs_int_int, bs_int_str, bs_int_list, bs_int_tuple, bs_int_dict, bs_str_NoneType, bs_str_bool, bs_str_int, bs_str_str, bs_str_list, bs_str_tuple, bs_str_dict, bs_list_NoneType, bs_list_bool, bs_list_int, bs_list_str, bs_list_list, bs_list_tuple, bs_list_dict, bs_tuple_NoneType, bs_tuple_bool, bs_tuple_int, bs_tuple_str, bs_tuple_list, bs_tuple_tuple, bs_tuple_dict, bs_dict_NoneType, bs_dict_bool, bs_dict_int, bs_dict_str, bs_dict_list, bs_dict_tuple, bs_dict_dict]; rfl
  | bl b => simp only [PM_ret, PM_bind, PM_guard, PM_slot', PM_eC, PM_eOp, PM_eUn, PM_eT, PM_tV, PM_eAnd, PM_eOr, PM_tAnd, PM_tOr, PM_tNot, PM_eIf, PM_tIf, PM_tCmp, PM_tChn, PM_last, PM_more, PM_aNil, PM_aCons, PM_eTup, PM_eLst, PM_eCall, PM_eNew, PM_eDrop, PM_add, PM_sub, PM_mul, PM_fdiv, PM_mod, PM_pow, PM_neg, PM_lt, PM_le, PM_gt, PM_ge, PM_eqi, PM_nei, own_int, own_bl, own_tup, own_str, PM_isNon, PM_isBl, PM_isnot, PM_tbl, PM_tint, PM_tnon, PM_ttup, PM_lenT, PM_lenF, PM_int, PM_abs, PM_tupT, PM_lstF, PM_ixT, PM_eM, PM_iSeq, PM_seqT, PM_seqF, PM_rng1, PM_rng2, PM_enum, PZ_bind, PZ_nx, PZ_bk, PZ_ct, PZ_rt, SQ_nx, SQ_rt, SQ_ct, SQ_bk, TQ_nx, TQ_ct, TQ_bk, TQ_rt, PZ_seq, PZ_ret, PZ_drop, PZ_if, PZ_asg, PZ_one, PZ_par, PZ_allN, PZ_allC, PZ_tup, PZ_sub, PZ_fld, PZ_for, List.getElem?_cons_zero, List.getElem?_cons_succ, Option.some.injEq, exists_eq_left', exists_eq_left, List.set_cons_zero, List.set_cons_succ, setAll, List.length_cons, List.length_nil, List.map_cons, List.map_nil, Nat.reduceAdd, Nat.reduceSub, List.replicate, List.cons_append, List.nil_append, true_and, and_true, Bool.not_true, Bool.not_false, if_true, if_false, Bool.false_eq_true, D.int.injEq, D.isNon, D.isBl, Nat.reduceLeDiff, dropR_len, Nat.le_refl, ite_true, ite_false, reduceCtorEq, PM_isiN, PM_isiB, PM_isiI, PM_isiS, PM_isiT, isT_ty, bs_NoneType_NoneType, bs_NoneType_bool, bs_NoneType_int, bs_NoneType_str, bs_NoneType_list, bs_NoneType_tuple, bs_NoneType_dict, bs_bool_NoneType, bs_bool_bool, bs_bool_int, bs_bool_str, bs_bool_list, bs_bool_tuple, bs_bool_dict, bs_int_NoneType, bs_int_bool, bs_int_int, bs_int_str, bs_int_list, bs_int_tuple, bs_int_dict, bs_str_NoneType, bs_str_bool, bs_str_int, bs_str_str, bs_str_list, bs_str_tuple, bs_str_dict, bs_list_NoneType, bs_list_bool, bs_list_int, bs_list_str, bs_list_list, bs_list_tuple, bs_list_dict, bs_tuple_NoneType, bs_tuple_bool, bs_tuple_int, bs_tuple_str, bs_tuple_list, bs_tuple_tuple, bs_tuple_dict, bs_dict_NoneType, bs_dict_bool, bs_dict_int, bs_dict_str, bs_dict_list, bs_dict_tuple, bs_dict_dict]; rfl
  | int i => simp only [PM_ret, PM_bind, PM_guard, PM_slot', PM_eC, PM_eOp, PM_eUn, PM_eT, PM_tV, PM_eAnd, PM_eOr, PM_tAnd, PM_tOr, PM_tNot, PM_eIf, PM_tIf, PM_tCmp, PM_tChn, PM_last, PM_more, PM_aNil, PM_aCons, PM_eTup, PM_eLst, PM_eCall, PM_eNew, PM_eDrop, PM_add, PM_sub, PM_mul, PM_fdiv, PM_mod, PM_pow, PM_neg, PM_lt, PM_le, PM_gt, PM_ge, PM_eqi, PM_nei, own_int, own_bl, own_tup, own_str, PM_isNon, PM_isBl, PM_isnot, PM_tbl, PM_tint, PM_tnon, PM_ttup, PM_lenT, PM_lenF, PM_int, PM_abs, PM_tupT, PM_lstF, PM_ixT, PM_eM, PM_iSeq, PM_seqT, PM_seqF, PM_rng1, PM_rng2, PM_enum, PZ_bind, PZ_nx, PZ_bk, PZ_ct, PZ_rt, SQ_nx, SQ_rt, SQ_ct, SQ_bk, TQ_nx, TQ_ct, TQ_bk, TQ_rt, PZ_seq, PZ_ret, PZ_drop, PZ_if, PZ_asg, PZ_one, PZ_par, PZ_allN, PZ_allC, PZ_tup, PZ_sub, PZ_fld, PZ_for, List.getElem?_cons_zero, List.getElem?_cons_succ, Option.some.injEq, exists_eq_left', exists_eq_left, List.set_cons_zero, List.set_cons_succ, setAll, List.length_cons, List.length_nil, List.map_cons, List.map_nil, Nat.reduceAdd, Nat.reduceSub, List.replicate, List.cons_append, List.nil_append, true_and, and_true, Bool.not_true, Bool.not_false, if_true, if_false, Bool.false_eq_true, D.int.injEq, D.isNon, D.isBl, Nat.reduceLeDiff, dropR_len, Nat.le_refl, ite_true, ite_false, reduceCtorEq, PM_isiN, PM_isiB, PM_isiI, PM_isiS, PM_isiT, isT_ty, bs_NoneType_NoneType, bs_NoneType_bool, bs_NoneType_int, bs_NoneType_str, bs_NoneType_list, bs_NoneType_tuple, bs_NoneType_dict, bs_bool_NoneType, bs_bool_bool, bs_bool_int, bs_bool_str, bs_bool_list, bs_bool_tuple, bs_bool_dict, bs_int_NoneType, bs_int_bool, bs_int_int, bs_int_str, bs_int_list, bs_int_tuple, bs_int_dict, bs_str_NoneType, bs_str_bool, bs_str_int, bs_str_str, bs_str_list, bs_str_tuple, bs_str_dict, bs_list_NoneType, bs_list_bool, bs_list_int, bs_list_str, bs_list_list, bs_list_tuple, bs_list_dict, bs_tuple_NoneType, bs_tuple_bool, bs_tuple_int, bs_tuple_str, bs_tuple_list, bs_tuple_tuple, bs_tuple_dict, bs_dict_NoneType, bs_dict_bool, bs_dict_int, bs_dict_str, bs_dict_list, bs_dict_tuple, bs_dict_dict]; rfl
  | _ => exact hd.elim
theorem e_tuples {d : D} (hd : simpD d) : (CC (k + 1)).fn 7 [d] S = some (.ok d S) := by
  refine fn_eq (PM_fn rfl rfl rfl ?_)
  unfold b_as_tuples
  have two : ∀ T : String, bSub T "list" = some false → bSub T "tuple" = some false → isT T (.tup [.ty "list", .ty "tuple"]) = some false := fun T h1 h2 => isT_two h1 h2
  have h2 : 2 ≤ sizeLine := by decide
  cases d with
  | non => simp only [PM_ret, PM_bind, PM_guard, PM_slot', PM_eC, PM_eOp, PM_eUn, PM_eT, PM_tV, PM_eAnd, PM_eOr, PM_tAnd, PM_tOr, PM_tNot, PM_eIf, PM_tIf, PM_tCmp, PM_tChn, PM_last, PM_more, PM_aNil, PM_aCons, PM_eTup, PM_eLst, PM_eCall, PM_eNew, PM_eDrop, PM_add, PM_sub, PM_mul, PM_fdiv, PM_mod, PM_pow, PM_neg, PM_lt, PM_le, PM_gt, PM_ge, PM_eqi, PM_nei, own_int, own_bl, own_tup, own_str, PM_isNon, PM_isBl, PM_isnot, PM_tbl, PM_tint, PM_tnon, PM_ttup, PM_lenT, PM_lenF, PM_int, PM_abs, PM_tupT, PM_lstF, PM_ixT, PM_eM, PM_iSeq, PM_seqT, PM_seqF, PM_rng1, PM_rng2, PM_enum, PZ_bind, PZ_nx, PZ_bk, PZ_ct, PZ_rt, SQ_nx, SQ_rt, SQ_ct, SQ_bk, TQ_nx, TQ_ct, TQ_bk, TQ_rt, PZ_seq, PZ_ret, PZ_drop, PZ_if, PZ_asg, PZ_one, PZ_par, PZ_allN, PZ_allC, PZ_tup, PZ_sub, PZ_fld, PZ_for, List.getElem?_cons_zero, List.getElem?_cons_succ, Option.some.injEq, exists_eq_left', exists_eq_left, List.set_cons_zero, List.set_cons_succ, setAll, List.length_cons, List.length_nil, List.map_cons, List.map_nil, Nat.reduceAdd, Nat.reduceSub, List.replicate, List.cons_append, List.nil_append, true_and, and_true, Bool.not_true, Bool.not_false, if_true, if_false, Bool.false_eq_true, D.int.injEq, D.isNon, D.isBl, Nat.reduceLeDiff, dropR_len, Nat.le_refl, ite_true, ite_false, reduceCtorEq, PM_isiN, PM_isiB, PM_isiI, PM_isiS, PM_isiT, isT_ty, bs_NoneType_NoneType, bs_NoneType_bool, bs_NoneType_int, bs_NoneType_str, bs_NoneType_list, bs_NoneType_tuple, bs_NoneType_dict, bs_bool_NoneType, bs_bool_bool, bs_bool_int, bs_bool_str, bs_bool_list, bs_bool_tuple, bs_bool_dict, bs_int_NoneType, bs_int_bool, bs_int_int, bs_int_str, bs_int_list, bs_int_tuple, bs_int_dict, bs_str_NoneType, bs_str_bool, bs_str_int, bs_str_str, bs_str_list, bs_str_tuple, bs_str_dict, bs_list_NoneType, bs_list_bool, bs_list_int, bs_list_str, bs_list_list, bs_list_tuple, bs_list_dict, bs_tuple_NoneType, bs_tuple_bool, bs_tuple_int, bs_tuple_str, bs_tuple_list, bs_tuple_tuple, bs_tuple_dict, bs_dict_NoneType, bs_dict_bool, bs_dict_int, bs_dict_str, bs_dict_list, bs_dict_tuple, bs_dict_dict, two "NoneType" bs_NoneType_list bs_NoneType_tuple, h2]
  | bl b => simp only [PM_ret, PM_bind, PM_guard, PM_slot', PM_eC, PM_eOp, PM_eUn, PM_eT, PM_tV, PM_eAnd, PM_eOr, PM_tAnd, PM_tOr, PM_tNot, PM_eIf, PM_tIf, PM_tCmp, PM_tChn, PM_last, PM_more, PM_aNil, PM_aCons, PM_eTup, PM_eLst, PM_eCall, PM_eNew, PM_eDrop, PM_add, PM_sub, PM_mul, PM_fdiv, PM_mod, PM_pow, PM_neg, PM_lt, PM_le, PM_gt, PM_ge, PM_eqi, PM_nei, own_int, own_bl, own_tup, own_str, PM_isNon, PM_isBl, PM_isnot, PM_tbl, PM_tint, PM_tnon, PM_ttup, PM_lenT, PM_lenF, PM_int, PM_abs, PM_tupT, PM_lstF, PM_ixT, PM_eM, PM_iSeq, PM_seqT, PM_seqF, PM_rng1, PM_rng2, PM_enum, PZ_bind, PZ_nx, PZ_bk, PZ_ct, PZ_rt, SQ_nx, SQ_rt, SQ_ct, SQ_bk, TQ_nx, TQ_ct, TQ_bk, TQ_rt, PZ_seq, PZ_ret, PZ_drop, PZ_if, PZ_asg, PZ_one, PZ_par, PZ_allN, PZ_allC, PZ_tup, PZ_sub, PZ_fld, PZ_for, List.getElem?_cons_zero, List.getElem?_cons_succ, Option.some.injEq, exists_eq_left', exists_eq_left, List.set_cons_zero, List.set_cons_succ, setAll, List.length_cons, List.length_nil, List.map_cons, List.map_nil, Nat.reduceAdd, Nat.reduceSub, List.replicate, List.cons_append, List.nil_append, true_and, and_true, Bool.not_true, Bool.not_false, if_true, if_false, Bool.false_eq_true, D.int.injEq, D.isNon, D.isBl, Nat.reduceLeDiff, dropR_len, Nat.le_refl, ite_true, ite_false, reduceCtorEq, PM_isiN, PM_isiB, PM_isiI, PM_isiS, PM_isiT, isT_ty, bs_NoneType_NoneType, bs_NoneType_bool, bs_NoneType_int, bs_NoneType_str, bs_NoneType_list, bs_NoneType_tuple, bs_NoneType_dict, bs_bool_NoneType, bs_bool_bool, bs_bool_int, bs_bool_str, bs_bool_list, bs_bool_tuple, bs_bool_dict, bs_int_NoneType, bs_int_bool, bs_int_int, bs_int_str, bs_int_list, bs_int_tuple, bs_int_dict, bs_str_NoneType, bs_str_bool, bs_str_int, bs_str_str, bs_str_list, bs_str_tuple, bs_str_dict, bs_list_NoneType, bs_list_bool, bs_list_int, bs_list_str, bs_list_list, bs_list_tuple, bs_list_dict, bs_tuple_NoneType, bs_tuple_bool, bs_tuple_int, bs_tuple_str, bs_tuple_list, bs_tuple_tuple, bs_tuple_dict, bs_dict_NoneType, bs_dict_bool, bs_dict_int, bs_dict_str, bs_dict_list, bs_dict_tuple, bs_dict_dict, two "bool" bs_bool_list bs_bool_tuple, h2]
  | int i => simp only [PM_ret, PM_bind, PM_guard, PM_slot', PM_eC, PM_eOp, PM_eUn, PM_eT, PM_tV, PM_eAnd, PM_eOr, PM_tAnd, PM_tOr, PM_tNot, PM_eIf, PM_tIf, PM_tCmp, PM_tChn, PM_last, PM_more, PM_aNil, PM_aCons, PM_eTup, PM_eLst, PM_eCall, PM_eNew, PM_eDrop, PM_add, PM_sub, PM_mul, PM_fdiv, PM_mod, PM_pow, PM_neg, PM_lt, PM_le, PM_gt, PM_ge, PM_eqi, PM_nei, own_int, own_bl, own_tup, own_str, PM_isNon, PM_isBl, PM_isnot, PM_tbl, PM_tint, PM_tnon, PM_ttup, PM_lenT, PM_lenF, PM_int, PM_abs, PM_tupT, PM_lstF, PM_ixT, PM_eM, PM_iSeq, PM_seqT, PM_seqF, PM_rng1, PM_rng2, PM_enum, PZ_bind, PZ_nx, PZ_bk, PZ_ct, PZ_rt, SQ_nx, SQ_rt, SQ_ct, SQ_bk, TQ_nx, TQ_ct, TQ_bk, TQ_rt, PZ_seq, PZ_ret, PZ_drop, PZ_if, PZ_asg, PZ_one, PZ_par, PZ_allN, PZ_allC, PZ_tup, PZ_sub, PZ_fld, PZ_for, List.getElem?_cons_zero, List.getElem?_cons_succ, Option.some.injEq, exists_eq_left', exists_eq_left, List.set_cons_zero, List.set_cons_succ, setAll, List.length_cons, List.length_nil, List.map_cons, List.map_nil, Nat.reduceAdd, Nat.reduceSub, List.replicate, List.cons_append, List.nil_append, true_and, and_true, Bool.not_true, Bool.not_false, if_true, if_false, Bool.false_eq_true, D.int.injEq, D.isNon, D.isBl, Nat.reduceLeDiff, dropR_len, Nat.le_refl, ite_true, ite_false, reduceCtorEq, PM_isiN, PM_isiB, PM_isiI, PM_isiS, PM_isiT, isT_ty, bs_NoneType_NoneType, bs_NoneType_bool, bs_NoneType_int, bs_NoneType_str, bs_NoneType_list, bs_NoneType_tuple, bs_NoneType_dict, bs_bool_NoneType, bs_bool_bool, bs_bool_int, bs_bool_str, bs_bool_list, bs_bool_tuple, bs_bool_dict, bs_int_NoneType, bs_int_bool, bs_int_int, bs_int_str, bs_int_list, bs_int_tuple, bs_int_dict, bs_str_NoneType, bs_str_bool, bs_str_int, bs_str_str, bs_str_list, bs_str_tuple, bs_str_dict, bs_list_NoneType, bs_list_bool, bs_list_int, bs_list_str, bs_list_list, bs_list_tuple, bs_list_dict, bs_tuple_NoneType, bs_tuple_bool, bs_tuple_int, bs_tuple_str, bs_tuple_list, bs_tuple_tuple, bs_tuple_dict, bs_dict_NoneType, bs_dict_bool, bs_dict_int, bs_dict_str, bs_dict_list, bs_dict_tuple, bs_dict_dict, two "int" bs_int_list bs_int_tuple, h2]
  | _ => exact hd.elim
theorem fmod_nat (m n : Nat) : ((m : Int).fmod (n : Int)) = ((m % n : Nat) : Int) := by
  rw [Int.fmod_eq_emod_of_nonneg _ (by omega)]; rfl
theorem abs_nat (m : Nat) : (if ((m : Int)) < 0 then -(m : Int) else (m : Int)) = (m : Int) := by
  rw [if_neg (by omega)]
theorem bne0 {n : Nat} (h : n ≠ 0) : ((n : Int) != 0) = true := by simp; exact h
theorem bne00 : (((0 : Nat) : Int) != 0) = false := by decide
theorem gcd_step (m n : Nat) : Nat.gcd m n = Nat.gcd n (m % n) := by
  rw [Nat.gcd_comm m n, Nat.gcd_rec n m, Nat.gcd_comm]
theorem gcd_loop {Qr : RS → Prop} : ∀ (n m : Nat), Qr (.nx [some (.int (Nat.gcd m n : Nat)), some (.int ((0 : Nat) : Int))] S) → PZ (sWhile (tV (eSlot 1)) (sPar [0, 1] (aCons (eSlot 1) (aCons (eOp oMod (eSlot 0) (eSlot 1)) aNil)))) [some (.int m), some (.int n)] S Qr := by
  intro n
  induction n using Nat.strongRecOn with
  | ind n ih =>
    intro m h
    refine PZ_while ?_
    simp only [PM_ret, PM_bind, PM_guard, PM_slot', PM_eC, PM_eOp, PM_eUn, PM_eT, PM_tV, PM_eAnd, PM_eOr, PM_tAnd, PM_tOr, PM_tNot, PM_eIf, PM_tIf, PM_tCmp, PM_tChn, PM_last, PM_more, PM_aNil, PM_aCons, PM_eTup, PM_eLst, PM_eCall, PM_eNew, PM_eDrop, PM_add, PM_sub, PM_mul, PM_fdiv, PM_mod, PM_pow, PM_neg, PM_lt, PM_le, PM_gt, PM_ge, PM_eqi, PM_nei, own_int, own_bl, own_tup, own_str, PM_isNon, PM_isBl, PM_isnot, PM_tbl, PM_tint, PM_tnon, PM_ttup, PM_lenT, PM_lenF, PM_int, PM_abs, PM_tupT, PM_lstF, PM_ixT, PM_eM, PM_iSeq, PM_seqT, PM_seqF, PM_rng1, PM_rng2, PM_enum, PZ_bind, PZ_nx, PZ_bk, PZ_ct, PZ_rt, SQ_nx, SQ_rt, SQ_ct, SQ_bk, TQ_nx, TQ_ct, TQ_bk, TQ_rt, PZ_seq, PZ_ret, PZ_drop, PZ_if, PZ_asg, PZ_one, PZ_par, PZ_allN, PZ_allC, PZ_tup, PZ_sub, PZ_fld, PZ_for, List.getElem?_cons_zero, List.getElem?_cons_succ, Option.some.injEq, exists_eq_left', exists_eq_left, List.set_cons_zero, List.set_cons_succ, setAll, List.length_cons, List.length_nil, List.map_cons, List.map_nil, Nat.reduceAdd, Nat.reduceSub, List.replicate, List.cons_append, List.nil_append, true_and, and_true, Bool.not_true, Bool.not_false, if_true, if_false, Bool.false_eq_true, D.int.injEq, D.isNon, D.isBl, Nat.reduceLeDiff, dropR_len, Nat.le_refl, ite_true, ite_false, reduceCtorEq]
    by_cases hn : n = 0
    · subst hn
      simp only [bne00, PM_ret, PM_bind, PM_guard, PM_slot', PM_eC, PM_eOp, PM_eUn, PM_eT, PM_tV, PM_eAnd, PM_eOr, PM_tAnd, PM_tOr, PM_tNot, PM_eIf, PM_tIf, PM_tCmp, PM_tChn, PM_last, PM_more, PM_aNil, PM_aCons, PM_eTup, PM_eLst, PM_eCall, PM_eNew, PM_eDrop, PM_add, PM_sub, PM_mul, PM_fdiv, PM_mod, PM_pow, PM_neg, PM_lt, PM_le, PM_gt, PM_ge, PM_eqi, PM_nei, own_int, own_bl, own_tup, own_str, PM_isNon, PM_isBl, PM_isnot, PM_tbl, PM_tint, PM_tnon, PM_ttup, PM_lenT, PM_lenF, PM_int, PM_abs, PM_tupT, PM_lstF, PM_ixT, PM_eM, PM_iSeq, PM_seqT, PM_seqF, PM_rng1, PM_rng2, PM_enum, PZ_bind, PZ_nx, PZ_bk, PZ_ct, PZ_rt, SQ_nx, SQ_rt, SQ_ct, SQ_bk, TQ_nx, TQ_ct, TQ_bk, TQ_rt, PZ_seq, PZ_ret, PZ_drop, PZ_if, PZ_asg, PZ_one, PZ_par, PZ_allN, PZ_allC, PZ_tup, PZ_sub, PZ_fld, PZ_for, List.getElem?_cons_zero, List.getElem?_cons_succ, Option.some.injEq, exists_eq_left', exists_eq_left, List.set_cons_zero, List.set_cons_succ, setAll, List.length_cons, List.length_nil, List.map_cons, List.map_nil, Nat.reduceAdd, Nat.reduceSub, List.replicate, List.cons_append, List.nil_append, true_and, and_true, Bool.not_true, Bool.not_false, if_true, if_false, Bool.false_eq_true, D.int.injEq, D.isNon, D.isBl, Nat.reduceLeDiff, dropR_len, Nat.le_refl, ite_true, ite_false, reduceCtorEq]
      rw [Nat.gcd_zero_right] at h
      exact h
    · simp only [bne0 hn, PM_ret, PM_bind, PM_guard, PM_slot', PM_eC, PM_eOp, PM_eUn, PM_eT, PM_tV, PM_eAnd, PM_eOr, PM_tAnd, PM_tOr, PM_tNot, PM_eIf, PM_tIf, PM_tCmp, PM_tChn, PM_last, PM_more, PM_aNil, PM_aCons, PM_eTup, PM_eLst, PM_eCall, PM_eNew, PM_eDrop, PM_add, PM_sub, PM_mul, PM_fdiv, PM_mod, PM_pow, PM_neg, PM_lt, PM_le, PM_gt, PM_ge, PM_eqi, PM_nei, own_int, own_bl, own_tup, own_str, PM_isNon, PM_isBl, PM_isnot, PM_tbl, PM_tint, PM_tnon, PM_ttup, PM_lenT, PM_lenF, PM_int, PM_abs, PM_tupT, PM_lstF, PM_ixT, PM_eM, PM_iSeq, PM_seqT, PM_seqF, PM_rng1, PM_rng2, PM_enum, PZ_bind, PZ_nx, PZ_bk, PZ_ct, PZ_rt, SQ_nx, SQ_rt, SQ_ct, SQ_bk, TQ_nx, TQ_ct, TQ_bk, TQ_rt, PZ_seq, PZ_ret, PZ_drop, PZ_if, PZ_asg, PZ_one, PZ_par, PZ_allN, PZ_allC, PZ_tup, PZ_sub, PZ_fld, PZ_for, List.getElem?_cons_zero, List.getElem?_cons_succ, Option.some.injEq, exists_eq_left', exists_eq_left, List.set_cons_zero, List.set_cons_succ, setAll, List.length_cons, List.length_nil, List.map_cons, List.map_nil, Nat.reduceAdd, Nat.reduceSub, List.replicate, List.cons_append, List.nil_append, true_and, and_true, Bool.not_true, Bool.not_false, if_true, if_false, Bool.false_eq_true, D.int.injEq, D.isNon, D.isBl, Nat.reduceLeDiff, dropR_len, Nat.le_refl, ite_true, ite_false, reduceCtorEq]
      refine ⟨by omega, ?_⟩
      rw [fmod_nat]
      exact ih (m % n) (Nat.mod_lt _ (by omega)) n (by rw [← gcd_step]; exact h)
theorem gcd_loop2 {C : Calls} {Qr : RS → Prop} : ∀ (n m : Nat), Qr (.nx [some (.int (Nat.gcd m n : Nat)), some (.int ((0 : Nat) : Int))] S) → PZ (sWhile (tCmp (cOwn Γ C "__ne__" cNe) (eSlot 1) (eC (.int 0))) (sPar [0, 1] (aCons (eSlot 1) (aCons (eOp oMod (eSlot 0) (eSlot 1)) aNil)))) [some (.int m), some (.int n)] S Qr := by
  intro n
  induction n using Nat.strongRecOn with
  | ind n ih =>
    intro m h
    refine PZ_while ?_
    simp only [PM_ret, PM_bind, PM_guard, PM_slot', PM_eC, PM_eOp, PM_eUn, PM_eT, PM_tV, PM_eAnd, PM_eOr, PM_tAnd, PM_tOr, PM_tNot, PM_eIf, PM_tIf, PM_tCmp, PM_tChn, PM_last, PM_more, PM_aNil, PM_aCons, PM_eTup, PM_eLst, PM_eCall, PM_eNew, PM_eDrop, PM_add, PM_sub, PM_mul, PM_fdiv, PM_mod, PM_pow, PM_neg, PM_lt, PM_le, PM_gt, PM_ge, PM_eqi, PM_nei, own_int, own_bl, own_tup, own_str, PM_isNon, PM_isBl, PM_isnot, PM_tbl, PM_tint, PM_tnon, PM_ttup, PM_lenT, PM_lenF, PM_int, PM_abs, PM_tupT, PM_lstF, PM_ixT, PM_eM, PM_iSeq, PM_seqT, PM_seqF, PM_rng1, PM_rng2, PM_enum, PZ_bind, PZ_nx, PZ_bk, PZ_ct, PZ_rt, SQ_nx, SQ_rt, SQ_ct, SQ_bk, TQ_nx, TQ_ct, TQ_bk, TQ_rt, PZ_seq, PZ_ret, PZ_drop, PZ_if, PZ_asg, PZ_one, PZ_par, PZ_allN, PZ_allC, PZ_tup, PZ_sub, PZ_fld, PZ_for, List.getElem?_cons_zero, List.getElem?_cons_succ, Option.some.injEq, exists_eq_left', exists_eq_left, List.set_cons_zero, List.set_cons_succ, setAll, List.length_cons, List.length_nil, List.map_cons, List.map_nil, Nat.reduceAdd, Nat.reduceSub, List.replicate, List.cons_append, List.nil_append, true_and, and_true, Bool.not_true, Bool.not_false, if_true, if_false, Bool.false_eq_true, D.int.injEq, D.isNon, D.isBl, Nat.reduceLeDiff, dropR_len, Nat.le_refl, ite_true, ite_false, reduceCtorEq]
    by_cases hn : n = 0
    · subst hn
      have e : (!decide (((0 : Nat) : Int) = 0)) = false := by decide
      simp only [e, PM_ret, PM_bind, PM_guard, PM_slot', PM_eC, PM_eOp, PM_eUn, PM_eT, PM_tV, PM_eAnd, PM_eOr, PM_tAnd, PM_tOr, PM_tNot, PM_eIf, PM_tIf, PM_tCmp, PM_tChn, PM_last, PM_more, PM_aNil, PM_aCons, PM_eTup, PM_eLst, PM_eCall, PM_eNew, PM_eDrop, PM_add, PM_sub, PM_mul, PM_fdiv, PM_mod, PM_pow, PM_neg, PM_lt, PM_le, PM_gt, PM_ge, PM_eqi, PM_nei, own_int, own_bl, own_tup, own_str, PM_isNon, PM_isBl, PM_isnot, PM_tbl, PM_tint, PM_tnon, PM_ttup, PM_lenT, PM_lenF, PM_int, PM_abs, PM_tupT, PM_lstF, PM_ixT, PM_eM, PM_iSeq, PM_seqT, PM_seqF, PM_rng1, PM_rng2, PM_enum, PZ_bind, PZ_nx, PZ_bk, PZ_ct, PZ_rt, SQ_nx, SQ_rt, SQ_ct, SQ_bk, TQ_nx, TQ_ct, TQ_bk, TQ_rt, PZ_seq, PZ_ret, PZ_drop, PZ_if, PZ_asg, PZ_one, PZ_par, PZ_allN, PZ_allC, PZ_tup, PZ_sub, PZ_fld, PZ_for, List.getElem?_cons_zero, List.getElem?_cons_succ, Option.some.injEq, exists_eq_left', exists_eq_left, List.set_cons_zero, List.set_cons_succ, setAll, List.length_cons, List.length_nil, List.map_cons, List.map_nil, Nat.reduceAdd, Nat.reduceSub, List.replicate, List.cons_append, List.nil_append, true_and, and_true, Bool.not_true, Bool.not_false, if_true, if_false, Bool.false_eq_true, D.int.injEq, D.isNon, D.isBl, Nat.reduceLeDiff, dropR_len, Nat.le_refl, ite_true, ite_false, reduceCtorEq]
      rw [Nat.gcd_zero_right] at h
      exact h
    · have e : (!decide ((n : Int) = 0)) = true := by simp; exact hn
      simp only [e, PM_ret, PM_bind, PM_guard, PM_slot', PM_eC, PM_eOp, PM_eUn, PM_eT, PM_tV, PM_eAnd, PM_eOr, PM_tAnd, PM_tOr, PM_tNot, PM_eIf, PM_tIf, PM_tCmp, PM_tChn, PM_last, PM_more, PM_aNil, PM_aCons, PM_eTup, PM_eLst, PM_eCall, PM_eNew, PM_eDrop, PM_add, PM_sub, PM_mul, PM_fdiv, PM_mod, PM_pow, PM_neg, PM_lt, PM_le, PM_gt, PM_ge, PM_eqi, PM_nei, own_int, own_bl, own_tup, own_str, PM_isNon, PM_isBl, PM_isnot, PM_tbl, PM_tint, PM_tnon, PM_ttup, PM_lenT, PM_lenF, PM_int, PM_abs, PM_tupT, PM_lstF, PM_ixT, PM_eM, PM_iSeq, PM_seqT, PM_seqF, PM_rng1, PM_rng2, PM_enum, PZ_bind, PZ_nx, PZ_bk, PZ_ct, PZ_rt, SQ_nx, SQ_rt, SQ_ct, SQ_bk, TQ_nx, TQ_ct, TQ_bk, TQ_rt, PZ_seq, PZ_ret, PZ_drop, PZ_if, PZ_asg, PZ_one, PZ_par, PZ_allN, PZ_allC, PZ_tup, PZ_sub, PZ_fld, PZ_for, List.getElem?_cons_zero, List.getElem?_cons_succ, Option.some.injEq, exists_eq_left', exists_eq_left, List.set_cons_zero, List.set_cons_succ, setAll, List.length_cons, List.length_nil, List.map_cons, List.map_nil, Nat.reduceAdd, Nat.reduceSub, List.replicate, List.cons_append, List.nil_append, true_and, and_true, Bool.not_true, Bool.not_false, if_true, if_false, Bool.false_eq_true, D.int.injEq, D.isNon, D.isBl, Nat.reduceLeDiff, dropR_len, Nat.le_refl, ite_true, ite_false, reduceCtorEq]
      refine ⟨by omega, ?_⟩
      rw [fmod_nat]
      exact ih (m % n) (Nat.mod_lt _ (by omega)) n (by rw [← gcd_step]; exact h)
theorem e_gcd (m n : Nat) : (CC (k + 1)).fn 9 [.int m, .int n] S = some (.ok (.int (Nat.gcd m n : Nat)) S) := by
  refine fn_eq (PM_fn rfl rfl rfl ?_)
  unfold b_greatest_divisor
  simp only [PM_ret, PM_bind, PM_guard, PM_slot', PM_eC, PM_eOp, PM_eUn, PM_eT, PM_tV, PM_eAnd, PM_eOr, PM_tAnd, PM_tOr, PM_tNot, PM_eIf, PM_tIf, PM_tCmp, PM_tChn, PM_last, PM_more, PM_aNil, PM_aCons, PM_eTup, PM_eLst, PM_eCall, PM_eNew, PM_eDrop, PM_add, PM_sub, PM_mul, PM_fdiv, PM_mod, PM_pow, PM_neg, PM_lt, PM_le, PM_gt, PM_ge, PM_eqi, PM_nei, own_int, own_bl, own_tup, own_str, PM_isNon, PM_isBl, PM_isnot, PM_tbl, PM_tint, PM_tnon, PM_ttup, PM_lenT, PM_lenF, PM_int, PM_abs, PM_tupT, PM_lstF, PM_ixT, PM_eM, PM_iSeq, PM_seqT, PM_seqF, PM_rng1, PM_rng2, PM_enum, PZ_bind, PZ_nx, PZ_bk, PZ_ct, PZ_rt, SQ_nx, SQ_rt, SQ_ct, SQ_bk, TQ_nx, TQ_ct, TQ_bk, TQ_rt, PZ_seq, PZ_ret, PZ_drop, PZ_if, PZ_asg, PZ_one, PZ_par, PZ_allN, PZ_allC, PZ_tup, PZ_sub, PZ_fld, PZ_for, List.getElem?_cons_zero, List.getElem?_cons_succ, Option.some.injEq, exists_eq_left', exists_eq_left, List.set_cons_zero, List.set_cons_succ, setAll, List.length_cons, List.length_nil, List.map_cons, List.map_nil, Nat.reduceAdd, Nat.reduceSub, List.replicate, List.cons_append, List.nil_append, true_and, and_true, Bool.not_true, Bool.not_false, if_true, if_false, Bool.false_eq_true, D.int.injEq, D.isNon, D.isBl, Nat.reduceLeDiff, dropR_len, Nat.le_refl, ite_true, ite_false, reduceCtorEq]
  refine gcd_loop n m ?_
  simp only [PM_ret, PM_bind, PM_guard, PM_slot', PM_eC, PM_eOp, PM_eUn, PM_eT, PM_tV, PM_eAnd, PM_eOr, PM_tAnd, PM_tOr, PM_tNot, PM_eIf, PM_tIf, PM_tCmp, PM_tChn, PM_last, PM_more, PM_aNil, PM_aCons, PM_eTup, PM_eLst, PM_eCall, PM_eNew, PM_eDrop, PM_add, PM_sub, PM_mul, PM_fdiv, PM_mod, PM_pow, PM_neg, PM_lt, PM_le, PM_gt, PM_ge, PM_eqi, PM_nei, own_int, own_bl, own_tup, own_str, PM_isNon, PM_isBl, PM_isnot, PM_tbl, PM_tint, PM_tnon, PM_ttup, PM_lenT, PM_lenF, PM_int, PM_abs, PM_tupT, PM_lstF, PM_ixT, PM_eM, PM_iSeq, PM_seqT, PM_seqF, PM_rng1, PM_rng2, PM_enum, PZ_bind, PZ_nx, PZ_bk, PZ_ct, PZ_rt, SQ_nx, SQ_rt, SQ_ct, SQ_bk, TQ_nx, TQ_ct, TQ_bk, TQ_rt, PZ_seq, PZ_ret, PZ_drop, PZ_if, PZ_asg, PZ_one, PZ_par, PZ_allN, PZ_allC, PZ_tup, PZ_sub, PZ_fld, PZ_for, List.getElem?_cons_zero, List.getElem?_cons_succ, Option.some.injEq, exists_eq_left', exists_eq_left, List.set_cons_zero, List.set_cons_succ, setAll, List.length_cons, List.length_nil, List.map_cons, List.map_nil, Nat.reduceAdd, Nat.reduceSub, List.replicate, List.cons_append, List.nil_append, true_and, and_true, Bool.not_true, Bool.not_false, if_true, if_false, Bool.false_eq_true, D.int.injEq, D.isNon, D.isBl, Nat.reduceLeDiff, dropR_len, Nat.le_refl, ite_true, ite_false, reduceCtorEq, abs_nat]
theorem e_lgcd (m n : Nat) : (CC (k + 1)).fn 27 [.int m, .int n] S = some (.ok (.int (Nat.gcd m n : Nat)) S) := by
  refine fn_eq (PM_fn rfl rfl rfl ?_)
  unfold b__law_gcd
  simp only [PM_ret, PM_bind, PM_guard, PM_slot', PM_eC, PM_eOp, PM_eUn, PM_eT, PM_tV, PM_eAnd, PM_eOr, PM_tAnd, PM_tOr, PM_tNot, PM_eIf, PM_tIf, PM_tCmp, PM_tChn, PM_last, PM_more, PM_aNil, PM_aCons, PM_eTup, PM_eLst, PM_eCall, PM_eNew, PM_eDrop, PM_add, PM_sub, PM_mul, PM_fdiv, PM_mod, PM_pow, PM_neg, PM_lt, PM_le, PM_gt, PM_ge, PM_eqi, PM_nei, own_int, own_bl, own_tup, own_str, PM_isNon, PM_isBl, PM_isnot, PM_tbl, PM_tint, PM_tnon, PM_ttup, PM_lenT, PM_lenF, PM_int, PM_abs, PM_tupT, PM_lstF, PM_ixT, PM_eM, PM_iSeq, PM_seqT, PM_seqF, PM_rng1, PM_rng2, PM_enum, PZ_bind, PZ_nx, PZ_bk, PZ_ct, PZ_rt, SQ_nx, SQ_rt, SQ_ct, SQ_bk, TQ_nx, TQ_ct, TQ_bk, TQ_rt, PZ_seq, PZ_ret, PZ_drop, PZ_if, PZ_asg, PZ_one, PZ_par, PZ_allN, PZ_allC, PZ_tup, PZ_sub, PZ_fld, PZ_for, List.getElem?_cons_zero, List.getElem?_cons_succ, Option.some.injEq, exists_eq_left', exists_eq_left, List.set_cons_zero, List.set_cons_succ, setAll, List.length_cons, List.length_nil, List.map_cons, List.map_nil, Nat.reduceAdd, Nat.reduceSub, List.replicate, List.cons_append, List.nil_append, true_and, and_true, Bool.not_true, Bool.not_false, if_true, if_false, Bool.false_eq_true, D.int.injEq, D.isNon, D.isBl, Nat.reduceLeDiff, dropR_len, Nat.le_refl, ite_true, ite_false, reduceCtorEq]
  refine gcd_loop2 n m ?_
  simp only [PM_ret, PM_bind, PM_guard, PM_slot', PM_eC, PM_eOp, PM_eUn, PM_eT, PM_tV, PM_eAnd, PM_eOr, PM_tAnd, PM_tOr, PM_tNot, PM_eIf, PM_tIf, PM_tCmp, PM_tChn, PM_last, PM_more, PM_aNil, PM_aCons, PM_eTup, PM_eLst, PM_eCall, PM_eNew, PM_eDrop, PM_add, PM_sub, PM_mul, PM_fdiv, PM_mod, PM_pow, PM_neg, PM_lt, PM_le, PM_gt, PM_ge, PM_eqi, PM_nei, own_int, own_bl, own_tup, own_str, PM_isNon, PM_isBl, PM_isnot, PM_tbl, PM_tint, PM_tnon, PM_ttup, PM_lenT, PM_lenF, PM_int, PM_abs, PM_tupT, PM_lstF, PM_ixT, PM_eM, PM_iSeq, PM_seqT, PM_seqF, PM_rng1, PM_rng2, PM_enum, PZ_bind, PZ_nx, PZ_bk, PZ_ct, PZ_rt, SQ_nx, SQ_rt, SQ_ct, SQ_bk, TQ_nx, TQ_ct, TQ_bk, TQ_rt, PZ_seq, PZ_ret, PZ_drop, PZ_if, PZ_asg, PZ_one, PZ_par, PZ_allN, PZ_allC, PZ_tup, PZ_sub, PZ_fld, PZ_for, List.getElem?_cons_zero, List.getElem?_cons_succ, Option.some.injEq, exists_eq_left', exists_eq_left, List.set_cons_zero, List.set_cons_succ, setAll, List.length_cons, List.length_nil, List.map_cons, List.map_nil, Nat.reduceAdd, Nat.reduceSub, List.replicate, List.cons_append, List.nil_append, true_and, and_true, Bool.not_true, Bool.not_false, if_true, if_false, Bool.false_eq_true, D.int.injEq, D.isNon, D.isBl, Nat.reduceLeDiff, dropR_len, Nat.le_refl, ite_true, ite_false, reduceCtorEq, abs_nat]

/-! ### instances -/
theorem flds0 : Γ.fields 0 = [("number" : Str), ("by" : Str)] := rfl
theorem flds1 : Γ.fields 1 = [("one" : Str), ("other" : Str)] := rfl
theorem set_last {S : Store} {c c' : Cell} : (S ++ [c]).set S.length c' = S ++ [c'] := by simp
theorem get_last {S : Store} {c : Cell} : (S ++ [c])[S.length]? = some c := by simp
/-- an __init__ that stores two values by as_tuples -/
theorem init_two {j : Nat} {f g : Str} {a b : D} {U : RS → Prop} (hf : f ∈ Γ.fields j) (hg : g ∈ Γ.fields j) (hfg : ¬ f = g) (ha : simpD a) (hb : simpD b)
    (h : U (.nx [some (.ref S.length), some a, some b] (S ++ [.obj j [(f, a), (g, b)]]))) :
    PZ (sSeq (sAsg (gFldS Γ f (eSlot 0)) (eCall (CC (k + 1)) 7 1 (aCons (eSlot 1) aNil))) (sAsg (gFldS Γ g (eSlot 0)) (eCall (CC (k + 1)) 7 1 (aCons (eSlot 2) aNil)))) [some (.ref S.length), some a, some b] (S ++ [.obj j []]) U := by
  have hz : ([] : List (Str × D)).length < 1000 := by decide
  have hz1 : ([(f, a)] : List (Str × D)).length < 1000 := by simp
  have e1 : putFD f a [] = [(f, a)] := rfl
  have e2 : putFD g b [(f, a)] = [(f, a), (g, b)] := by
    unfold putFD; rw [if_neg hfg]; rfl
  simp only [PM_ret, PM_bind, PM_guard, PM_slot', PM_eC, PM_eOp, PM_eUn, PM_eT, PM_tV, PM_eAnd, PM_eOr, PM_tAnd, PM_tOr, PM_tNot, PM_eIf, PM_tIf, PM_tCmp, PM_tChn, PM_last, PM_more, PM_aNil, PM_aCons, PM_eTup, PM_eLst, PM_eCall, PM_eNew, PM_eDrop, PM_add, PM_sub, PM_mul, PM_fdiv, PM_mod, PM_pow, PM_neg, PM_lt, PM_le, PM_gt, PM_ge, PM_eqi, PM_nei, own_int, own_bl, own_tup, own_str, PM_isNon, PM_isBl, PM_isnot, PM_tbl, PM_tint, PM_tnon, PM_ttup, PM_lenT, PM_lenF, PM_int, PM_abs, PM_tupT, PM_lstF, PM_ixT, PM_eM, PM_iSeq, PM_seqT, PM_seqF, PM_rng1, PM_rng2, PM_enum, PZ_bind, PZ_nx, PZ_bk, PZ_ct, PZ_rt, SQ_nx, SQ_rt, SQ_ct, SQ_bk, TQ_nx, TQ_ct, TQ_bk, TQ_rt, PZ_seq, PZ_ret, PZ_drop, PZ_if, PZ_asg, PZ_one, PZ_par, PZ_allN, PZ_allC, PZ_tup, PZ_sub, PZ_fld, PZ_for, List.getElem?_cons_zero, List.getElem?_cons_succ, Option.some.injEq, exists_eq_left', exists_eq_left, List.set_cons_zero, List.set_cons_succ, setAll, List.length_cons, List.length_nil, List.map_cons, List.map_nil, Nat.reduceAdd, Nat.reduceSub, List.replicate, List.cons_append, List.nil_append, true_and, and_true, Bool.not_true, Bool.not_false, if_true, if_false, Bool.false_eq_true, D.int.injEq, D.isNon, D.isBl, Nat.reduceLeDiff, dropR_len, Nat.le_refl, ite_true, ite_false, reduceCtorEq, PM_of (e_tuples ha), PM_of (e_tuples hb), PM_putF get_last hf hz, set_last, e1, PM_putF get_last hg hz1, e2]
  exact h
theorem below2 {n : Nat} {a b : D} (ha : simpD a) (hb : simpD b) : belowDs n [a, b] := by
  have h1 : ∀ d, simpD d → belowD n d := fun d h => by cases d <;> first | trivial | exact h.elim
  exact ⟨h1 a ha, h1 b hb, trivial⟩
theorem e_found {a b : D} (ha : simpD a) (hb : simpD b) : (CC (k + 3)).new 0 [a, b] S = some (.ok (.obj 0 [a, b]) S) := by
  refine fn_eq (PM_new (cd := ⟨[("number" : Str), ("by" : Str)], true, some 0, [(("__eq__" : Str), 1), (("__ne__" : Str), 2)]⟩) (i := 0) (xs := [a, b]) rfl rfl rfl ?_ rfl (below2 ha hb) ⟨rfl, rfl⟩)
  refine PM_fn rfl rfl rfl ?_
  unfold b_Found_init
  refine init_two (f := "number") (g := "by") (by rw [flds0]; decide) (by rw [flds0]; decide) (by decide) ha hb ?_
  exact ⟨rfl, dropR_len (by simp)⟩
theorem e_clash {a b : D} (ha : simpD a) (hb : simpD b) : (CC (k + 3)).new 1 [a, b] S = some (.ok (.obj 1 [a, b]) S) := by
  refine fn_eq (PM_new (cd := ⟨[("one" : Str), ("other" : Str)], true, some 3, [(("__eq__" : Str), 4), (("__ne__" : Str), 5)]⟩) (i := 3) (xs := [a, b]) rfl rfl rfl ?_ rfl (below2 ha hb) ⟨rfl, rfl⟩)
  refine PM_fn rfl rfl rfl ?_
  unfold b_Clash_init
  refine init_two (f := "one") (g := "other") (by rw [flds1]; decide) (by rw [flds1]; decide) (by decide) ha hb ?_
  exact ⟨rfl, dropR_len (by simp)⟩

/-! ### demands -/
def dD (p : Int × Nat) : D := .tup [.int p.1, .int p.2]
def okD (p : Int × Nat) : Prop := -100000 ≤ p.1 ∧ p.1 ≤ 100000 ∧ 1 ≤ p.2 ∧ p.2 ≤ 24
theorem big2 : 2 ≤ sizeLine := by decide
theorem at0 {a b : D} : atI [a, b] 0 = some a := rfl
theorem at1 {a b : D} : atI [a, b] 1 = some b := rfl
theorem abs_le {i : Int} (h : -100000 ≤ i ∧ i ≤ 100000) : decide ((if i < 0 then -i else i) ≤ 1000000000) = true := by
  rw [decide_eq_true_eq]; split <;> omega
theorem e_isdem {p : Int × Nat} (h : okD p) : (CC (k + 2)).fn 10 [dD p] S = some (.ok (.bl true) S) := by
  refine fn_eq (PM_fn rfl rfl rfl ?_)
  unfold b_is_demand dD
  obtain ⟨h1, h2, h3, h4⟩ := h
  have e1 : decide ((1 : Int) ≤ (p.2 : Int)) = true := by rw [decide_eq_true_eq]; omega
  have e2 : decide ((p.2 : Int) ≤ 1000000) = true := by rw [decide_eq_true_eq]; omega
  have e3 : (!decide (((2 : Nat) : Int) = 2)) = false := by decide
  have w0 : (CC (k + 1)).fn 6 [.int p.1] S = some (.ok (.bl true) S) := e_whole (d := .int p.1) trivial
  have w1 : (CC (k + 1)).fn 6 [.int (p.2 : Int)] S = some (.ok (.bl true) S) := e_whole (d := .int p.2) trivial
  simp only [PM_ret, PM_bind, PM_guard, PM_slot', PM_eC, PM_eOp, PM_eUn, PM_eT, PM_tV, PM_eAnd, PM_eOr, PM_tAnd, PM_tOr, PM_tNot, PM_eIf, PM_tIf, PM_tCmp, PM_tChn, PM_last, PM_more, PM_aNil, PM_aCons, PM_eTup, PM_eLst, PM_eCall, PM_eNew, PM_eDrop, PM_add, PM_sub, PM_mul, PM_fdiv, PM_mod, PM_pow, PM_neg, PM_lt, PM_le, PM_gt, PM_ge, PM_eqi, PM_nei, own_int, own_bl, own_tup, own_str, PM_isNon, PM_isBl, PM_isnot, PM_tbl, PM_tint, PM_tnon, PM_ttup, PM_lenT, PM_lenF, PM_int, PM_abs, PM_tupT, PM_lstF, PM_ixT, PM_eM, PM_iSeq, PM_seqT, PM_seqF, PM_rng1, PM_rng2, PM_enum, PZ_bind, PZ_nx, PZ_bk, PZ_ct, PZ_rt, SQ_nx, SQ_rt, SQ_ct, SQ_bk, TQ_nx, TQ_ct, TQ_bk, TQ_rt, PZ_seq, PZ_ret, PZ_drop, PZ_if, PZ_asg, PZ_one, PZ_par, PZ_allN, PZ_allC, PZ_tup, PZ_sub, PZ_fld, PZ_for, List.getElem?_cons_zero, List.getElem?_cons_succ, Option.some.injEq, exists_eq_left', exists_eq_left, List.set_cons_zero, List.set_cons_succ, setAll, List.length_cons, List.length_nil, List.map_cons, List.map_nil, Nat.reduceAdd, Nat.reduceSub, List.replicate, List.cons_append, List.nil_append, true_and, and_true, Bool.not_true, Bool.not_false, if_true, if_false, Bool.false_eq_true, D.int.injEq, D.isNon, D.isBl, Nat.reduceLeDiff, dropR_len, Nat.le_refl, ite_true, ite_false, reduceCtorEq, PM_isiN, PM_isiB, PM_isiI, PM_isiS, PM_isiT, isT_ty, bs_NoneType_NoneType, bs_NoneType_bool, bs_NoneType_int, bs_NoneType_str, bs_NoneType_list, bs_NoneType_tuple, bs_NoneType_dict, bs_bool_NoneType, bs_bool_bool, bs_bool_int, bs_bool_str, bs_bool_list, bs_bool_tuple, bs_bool_dict, bs_int_NoneType, bs_int_bool, bs_int_int, bs_int_str, bs_int_list, bs_int_tuple, bs_int_dict, bs_str_NoneType, bs_str_bool, bs_str_int, bs_str_str, bs_str_list, bs_str_tuple, bs_str_dict, bs_list_NoneType, bs_list_bool, bs_list_int, bs_list_str, bs_list_list, bs_list_tuple, bs_list_dict, bs_tuple_NoneType, bs_tuple_bool, bs_tuple_int, bs_tuple_str, bs_tuple_list, bs_tuple_tuple, bs_tuple_dict, bs_dict_NoneType, bs_dict_bool, bs_dict_int, bs_dict_str, bs_dict_list, bs_dict_tuple, bs_dict_dict, at0, at1, PM_of w0, PM_of w1, e3, abs_le ⟨h1, h2⟩, e1, e2]
theorem all_true {α : Type} {g : α → D} {xs : List α} : asBls (xs.filterMap fun x => some (D.bl true)) = some (xs.map fun _ => true) := by
  induction xs with
  | nil => rfl
  | cons x xs ih =>
    rw [List.filterMap_cons]
    simp only
    unfold asBls
    rw [ih]; rfl
theorem all_id {α : Type} {xs : List α} : (xs.map fun _ => true).all id = true := by
  induction xs with
  | nil => rfl
  | cons x xs ih => simpa using ih
theorem PM_all {r : Nat} {xs : List D} {bs : List Bool} (h : S[r]? = some (.lst xs)) (hb : asBls xs = some bs) : PM (fAll (.ref r)) S Q ↔ Q (.bl (bs.all id)) S := by
  show PM (M.bind (getL r) fun xs => .bind (optM (asBls xs)) fun bs => .ret (.bl (bs.all id))) S Q ↔ _
  rw [PM_bind, PM_getL h, PM_bind, hb]
  show PM (M.ret bs) S _ ↔ _
  rw [PM_ret, PM_ret]
theorem drop_bl {b : Bool} {c : Cell} : dropR S (.bl b) (S ++ [c]) = S := dropR_pure (by simp) trivial
theorem e_need {dm : List (Int × Nat)} (h : ∀ p ∈ dm, okD p) (hl : dm.length ≤ 12) : (CC (k + 3)).fn 11 [.tup (dm.map dD)] S = some (.ok (.tup (dm.map dD)) S) := by
  refine fn_eq (PM_fn rfl rfl rfl ?_)
  unfold b_need_demands
  have e1 : decide ((12 : Int) < ((dm.map dD).length : Int)) = false := by
    rw [decide_eq_false_iff_not, List.length_map]; omega
  simp only [PM_ret, PM_bind, PM_guard, PM_slot', PM_eC, PM_eOp, PM_eUn, PM_eT, PM_tV, PM_eAnd, PM_eOr, PM_tAnd, PM_tOr, PM_tNot, PM_eIf, PM_tIf, PM_tCmp, PM_tChn, PM_last, PM_more, PM_aNil, PM_aCons, PM_eTup, PM_eLst, PM_eCall, PM_eNew, PM_eDrop, PM_add, PM_sub, PM_mul, PM_fdiv, PM_mod, PM_pow, PM_neg, PM_lt, PM_le, PM_gt, PM_ge, PM_eqi, PM_nei, own_int, own_bl, own_tup, own_str, PM_isNon, PM_isBl, PM_isnot, PM_tbl, PM_tint, PM_tnon, PM_ttup, PM_lenT, PM_lenF, PM_int, PM_abs, PM_tupT, PM_lstF, PM_ixT, PM_eM, PM_iSeq, PM_seqT, PM_seqF, PM_rng1, PM_rng2, PM_enum, PZ_bind, PZ_nx, PZ_bk, PZ_ct, PZ_rt, SQ_nx, SQ_rt, SQ_ct, SQ_bk, TQ_nx, TQ_ct, TQ_bk, TQ_rt, PZ_seq, PZ_ret, PZ_drop, PZ_if, PZ_asg, PZ_one, PZ_par, PZ_allN, PZ_allC, PZ_tup, PZ_sub, PZ_fld, PZ_for, List.getElem?_cons_zero, List.getElem?_cons_succ, Option.some.injEq, exists_eq_left', exists_eq_left, List.set_cons_zero, List.set_cons_succ, setAll, List.length_cons, List.length_nil, List.map_cons, List.map_nil, Nat.reduceAdd, Nat.reduceSub, List.replicate, List.cons_append, List.nil_append, true_and, and_true, Bool.not_true, Bool.not_false, if_true, if_false, Bool.false_eq_true, D.int.injEq, D.isNon, D.isBl, Nat.reduceLeDiff, dropR_len, Nat.le_refl, ite_true, ite_false, reduceCtorEq, PM_isiN, PM_isiB, PM_isiI, PM_isiS, PM_isiT, isT_ty, bs_NoneType_NoneType, bs_NoneType_bool, bs_NoneType_int, bs_NoneType_str, bs_NoneType_list, bs_NoneType_tuple, bs_NoneType_dict, bs_bool_NoneType, bs_bool_bool, bs_bool_int, bs_bool_str, bs_bool_list, bs_bool_tuple, bs_bool_dict, bs_int_NoneType, bs_int_bool, bs_int_int, bs_int_str, bs_int_list, bs_int_tuple, bs_int_dict, bs_str_NoneType, bs_str_bool, bs_str_int, bs_str_str, bs_str_list, bs_str_tuple, bs_str_dict, bs_list_NoneType, bs_list_bool, bs_list_int, bs_list_str, bs_list_list, bs_list_tuple, bs_list_dict, bs_tuple_NoneType, bs_tuple_bool, bs_tuple_int, bs_tuple_str, bs_tuple_list, bs_tuple_tuple, bs_tuple_dict, bs_dict_NoneType, bs_dict_bool, bs_dict_int, bs_dict_str, bs_dict_list, bs_dict_tuple, bs_dict_dict, e1]
  refine PM_comp ?_
  simp only [PM_ret, PM_bind, PM_guard, PM_slot', PM_eC, PM_eOp, PM_eUn, PM_eT, PM_tV, PM_eAnd, PM_eOr, PM_tAnd, PM_tOr, PM_tNot, PM_eIf, PM_tIf, PM_tCmp, PM_tChn, PM_last, PM_more, PM_aNil, PM_aCons, PM_eTup, PM_eLst, PM_eCall, PM_eNew, PM_eDrop, PM_add, PM_sub, PM_mul, PM_fdiv, PM_mod, PM_pow, PM_neg, PM_lt, PM_le, PM_gt, PM_ge, PM_eqi, PM_nei, own_int, own_bl, own_tup, own_str, PM_isNon, PM_isBl, PM_isnot, PM_tbl, PM_tint, PM_tnon, PM_ttup, PM_lenT, PM_lenF, PM_int, PM_abs, PM_tupT, PM_lstF, PM_ixT, PM_eM, PM_iSeq, PM_seqT, PM_seqF, PM_rng1, PM_rng2, PM_enum, PZ_bind, PZ_nx, PZ_bk, PZ_ct, PZ_rt, SQ_nx, SQ_rt, SQ_ct, SQ_bk, TQ_nx, TQ_ct, TQ_bk, TQ_rt, PZ_seq, PZ_ret, PZ_drop, PZ_if, PZ_asg, PZ_one, PZ_par, PZ_allN, PZ_allC, PZ_tup, PZ_sub, PZ_fld, PZ_for, List.getElem?_cons_zero, List.getElem?_cons_succ, Option.some.injEq, exists_eq_left', exists_eq_left, List.set_cons_zero, List.set_cons_succ, setAll, List.length_cons, List.length_nil, List.map_cons, List.map_nil, Nat.reduceAdd, Nat.reduceSub, List.replicate, List.cons_append, List.nil_append, true_and, and_true, Bool.not_true, Bool.not_false, if_true, if_false, Bool.false_eq_true, D.int.injEq, D.isNon, D.isBl, Nat.reduceLeDiff, dropR_len, Nat.le_refl, ite_true, ite_false, reduceCtorEq]
  refine ⟨by rw [List.length_map]; have := sizeLine_big; omega, fun _ => some (.bl true), fun _ => trivial, fun d hd => ?_, ?_⟩
  · obtain ⟨p, hp, rfl⟩ := List.mem_map.mp hd
    refine ⟨_, rfl, fun acc => ?_⟩
    have tt : ∀ ρ S', PM (tTrue ρ) S' = fun (Q : Bool → Store → Prop) => Q true S' := fun ρ S' => by
      funext Q
      exact propext PM_ret
    have w := e_isdem (k := k) (S := S ++ [.lst acc]) (h p hp)
    simp only [PM_ret, PM_bind, PM_guard, PM_slot', PM_eC, PM_eOp, PM_eUn, PM_eT, PM_tV, PM_eAnd, PM_eOr, PM_tAnd, PM_tOr, PM_tNot, PM_eIf, PM_tIf, PM_tCmp, PM_tChn, PM_last, PM_more, PM_aNil, PM_aCons, PM_eTup, PM_eLst, PM_eCall, PM_eNew, PM_eDrop, PM_add, PM_sub, PM_mul, PM_fdiv, PM_mod, PM_pow, PM_neg, PM_lt, PM_le, PM_gt, PM_ge, PM_eqi, PM_nei, own_int, own_bl, own_tup, own_str, PM_isNon, PM_isBl, PM_isnot, PM_tbl, PM_tint, PM_tnon, PM_ttup, PM_lenT, PM_lenF, PM_int, PM_abs, PM_tupT, PM_lstF, PM_ixT, PM_eM, PM_iSeq, PM_seqT, PM_seqF, PM_rng1, PM_rng2, PM_enum, PZ_bind, PZ_nx, PZ_bk, PZ_ct, PZ_rt, SQ_nx, SQ_rt, SQ_ct, SQ_bk, TQ_nx, TQ_ct, TQ_bk, TQ_rt, PZ_seq, PZ_ret, PZ_drop, PZ_if, PZ_asg, PZ_one, PZ_par, PZ_allN, PZ_allC, PZ_tup, PZ_sub, PZ_fld, PZ_for, List.getElem?_cons_zero, List.getElem?_cons_succ, Option.some.injEq, exists_eq_left', exists_eq_left, List.set_cons_zero, List.set_cons_succ, setAll, List.length_cons, List.length_nil, List.map_cons, List.map_nil, Nat.reduceAdd, Nat.reduceSub, List.replicate, List.cons_append, List.nil_append, true_and, and_true, Bool.not_true, Bool.not_false, if_true, if_false, Bool.false_eq_true, D.int.injEq, D.isNon, D.isBl, Nat.reduceLeDiff, dropR_len, Nat.le_refl, ite_true, ite_false, reduceCtorEq, tt, List.foldr_cons, List.foldr_nil, PM_of w]
  · simp only [PM_ret, PM_bind, PM_guard, PM_slot', PM_eC, PM_eOp, PM_eUn, PM_eT, PM_tV, PM_eAnd, PM_eOr, PM_tAnd, PM_tOr, PM_tNot, PM_eIf, PM_tIf, PM_tCmp, PM_tChn, PM_last, PM_more, PM_aNil, PM_aCons, PM_eTup, PM_eLst, PM_eCall, PM_eNew, PM_eDrop, PM_add, PM_sub, PM_mul, PM_fdiv, PM_mod, PM_pow, PM_neg, PM_lt, PM_le, PM_gt, PM_ge, PM_eqi, PM_nei, own_int, own_bl, own_tup, own_str, PM_isNon, PM_isBl, PM_isnot, PM_tbl, PM_tint, PM_tnon, PM_ttup, PM_lenT, PM_lenF, PM_int, PM_abs, PM_tupT, PM_lstF, PM_ixT, PM_eM, PM_iSeq, PM_seqT, PM_seqF, PM_rng1, PM_rng2, PM_enum, PZ_bind, PZ_nx, PZ_bk, PZ_ct, PZ_rt, SQ_nx, SQ_rt, SQ_ct, SQ_bk, TQ_nx, TQ_ct, TQ_bk, TQ_rt, PZ_seq, PZ_ret, PZ_drop, PZ_if, PZ_asg, PZ_one, PZ_par, PZ_allN, PZ_allC, PZ_tup, PZ_sub, PZ_fld, PZ_for, List.getElem?_cons_zero, List.getElem?_cons_succ, Option.some.injEq, exists_eq_left', exists_eq_left, List.set_cons_zero, List.set_cons_succ, setAll, List.length_cons, List.length_nil, List.map_cons, List.map_nil, Nat.reduceAdd, Nat.reduceSub, List.replicate, List.cons_append, List.nil_append, true_and, and_true, Bool.not_true, Bool.not_false, if_true, if_false, Bool.false_eq_true, D.int.injEq, D.isNon, D.isBl, Nat.reduceLeDiff, dropR_len, Nat.le_refl, ite_true, ite_false, reduceCtorEq, PM_all get_last (all_true (g := fun (x : D) => x)), all_id, drop_bl]

def clashB (p q : Int × Nat) : Bool := decide ((p.1 - q.1).fmod (Nat.gcd p.2 q.2 : Nat) ≠ 0)
theorem e_clashB {p q : Int × Nat} (hp : okD p) (hq : okD q) : (CC (k + 2)).fn 12 [dD p, dD q] S = some (.ok (.bl (clashB p q)) S) := by
  refine fn_eq (PM_fn rfl rfl rfl ?_)
  unfold b_do_clash dD
  have hg : ((Nat.gcd p.2 q.2 : Nat) : Int) ≠ 0 := by
    have := Nat.gcd_pos_of_pos_left q.2 (show 0 < p.2 by have := hp.2.2.1; omega)
    omega
  simp only [PM_ret, PM_bind, PM_guard, PM_slot', PM_eC, PM_eOp, PM_eUn, PM_eT, PM_tV, PM_eAnd, PM_eOr, PM_tAnd, PM_tOr, PM_tNot, PM_eIf, PM_tIf, PM_tCmp, PM_tChn, PM_last, PM_more, PM_aNil, PM_aCons, PM_eTup, PM_eLst, PM_eCall, PM_eNew, PM_eDrop, PM_add, PM_sub, PM_mul, PM_fdiv, PM_mod, PM_pow, PM_neg, PM_lt, PM_le, PM_gt, PM_ge, PM_eqi, PM_nei, own_int, own_bl, own_tup, own_str, PM_isNon, PM_isBl, PM_isnot, PM_tbl, PM_tint, PM_tnon, PM_ttup, PM_lenT, PM_lenF, PM_int, PM_abs, PM_tupT, PM_lstF, PM_ixT, PM_eM, PM_iSeq, PM_seqT, PM_seqF, PM_rng1, PM_rng2, PM_enum, PZ_bind, PZ_nx, PZ_bk, PZ_ct, PZ_rt, SQ_nx, SQ_rt, SQ_ct, SQ_bk, TQ_nx, TQ_ct, TQ_bk, TQ_rt, PZ_seq, PZ_ret, PZ_drop, PZ_if, PZ_asg, PZ_one, PZ_par, PZ_allN, PZ_allC, PZ_tup, PZ_sub, PZ_fld, PZ_for, List.getElem?_cons_zero, List.getElem?_cons_succ, Option.some.injEq, exists_eq_left', exists_eq_left, List.set_cons_zero, List.set_cons_succ, setAll, List.length_cons, List.length_nil, List.map_cons, List.map_nil, Nat.reduceAdd, Nat.reduceSub, List.replicate, List.cons_append, List.nil_append, true_and, and_true, Bool.not_true, Bool.not_false, if_true, if_false, Bool.false_eq_true, D.int.injEq, D.isNon, D.isBl, Nat.reduceLeDiff, dropR_len, Nat.le_refl, ite_true, ite_false, reduceCtorEq, at0, at1, PM_of (e_gcd (k := k) (S := S) p.2 q.2)]
  refine ⟨hg, ?_⟩
  unfold clashB
  congr 1
  simp
/-- what first_clash gives -/
def clashD (d : D) : Prop := d = .non ∨ ∃ i j : Nat, d = .obj 1 [.int i, .int j]
theorem enum_at {xs : List D} {j : Nat} {d : D} (h : (enumL xs)[j]? = some d) : ∃ x, xs[j]? = some x ∧ d = .tup [.int j, x] := by
  unfold enumL at h
  rw [List.getElem?_map, List.getElem?_zipIdx] at h
  cases e : xs[j]? with
  | none => rw [e] at h; cases h
  | some x =>
    rw [e] at h
    simp at h
    exact ⟨x, rfl, h.symm⟩
theorem enum_len {xs : List D} : (enumL xs).length = xs.length := by unfold enumL; simp
theorem rng_at {i j : Int} {n : Nat} {d : D} (h : (rngL i j)[n]? = some d) : d = .int (i + n) ∧ i + n < j := by
  unfold rngL at h
  rw [List.getElem?_map] at h
  cases e : (List.range (j - i).toNat)[n]? with
  | none => rw [e] at h; cases h
  | some x =>
    rw [e] at h
    have := List.getElem?_eq_some_iff.mp e
    obtain ⟨h1, h2⟩ := this
    simp at h1 h2
    subst h2
    cases h
    exact ⟨rfl, by omega⟩
theorem atI_nat {xs : List D} {n : Nat} {d : D} (h : xs[n]? = some d) : atI xs (n : Int) = some d := by
  have hl := (List.getElem?_eq_some_iff.mp h).1
  unfold atI ixN
  rw [if_pos (by omega), if_pos (by omega)]
  simpa using h
theorem map_at {dm : List (Int × Nat)} {n : Nat} {d : D} (h : (dm.map dD)[n]? = some d) : ∃ p, dm[n]? = some p ∧ d = dD p := by
  rw [List.getElem?_map] at h
  cases e : dm[n]? with
  | none => rw [e] at h; cases h
  | some p => rw [e] at h; cases h; exact ⟨p, rfl, rfl⟩
theorem mem_of_at {dm : List (Int × Nat)} {n : Nat} {p : Int × Nat} (h : dm[n]? = some p) : p ∈ dm := List.mem_of_getElem? h
theorem e_first {dm : List (Int × Nat)} (h : ∀ p ∈ dm, okD p) (hl : dm.length ≤ 12) : PM ((CC (k + 4)).fn 13 [.tup (dm.map dD)]) S fun d S' => clashD d ∧ S' = S := by
  refine PM_fn rfl rfl rfl ?_
  unfold b_first_clash
  simp only [PM_ret, PM_bind, PM_guard, PM_slot', PM_eC, PM_eOp, PM_eUn, PM_eT, PM_tV, PM_eAnd, PM_eOr, PM_tAnd, PM_tOr, PM_tNot, PM_eIf, PM_tIf, PM_tCmp, PM_tChn, PM_last, PM_more, PM_aNil, PM_aCons, PM_eTup, PM_eLst, PM_eCall, PM_eNew, PM_eDrop, PM_add, PM_sub, PM_mul, PM_fdiv, PM_mod, PM_pow, PM_neg, PM_lt, PM_le, PM_gt, PM_ge, PM_eqi, PM_nei, own_int, own_bl, own_tup, own_str, PM_isNon, PM_isBl, PM_isnot, PM_tbl, PM_tint, PM_tnon, PM_ttup, PM_lenT, PM_lenF, PM_int, PM_abs, PM_tupT, PM_lstF, PM_ixT, PM_eM, PM_iSeq, PM_seqT, PM_seqF, PM_rng1, PM_rng2, PM_enum, PZ_bind, PZ_nx, PZ_bk, PZ_ct, PZ_rt, SQ_nx, SQ_rt, SQ_ct, SQ_bk, TQ_nx, TQ_ct, TQ_bk, TQ_rt, PZ_seq, PZ_ret, PZ_drop, PZ_if, PZ_asg, PZ_one, PZ_par, PZ_allN, PZ_allC, PZ_tup, PZ_sub, PZ_fld, PZ_for, List.getElem?_cons_zero, List.getElem?_cons_succ, Option.some.injEq, exists_eq_left', exists_eq_left, List.set_cons_zero, List.set_cons_succ, setAll, List.length_cons, List.length_nil, List.map_cons, List.map_nil, Nat.reduceAdd, Nat.reduceSub, List.replicate, List.cons_append, List.nil_append, true_and, and_true, Bool.not_true, Bool.not_false, if_true, if_false, Bool.false_eq_true, D.int.injEq, D.isNon, D.isBl, Nat.reduceLeDiff, dropR_len, Nat.le_refl, ite_true, ite_false, reduceCtorEq]
  refine PZ_go (fun _ ρ S' => S' = S ∧ ∃ a b c, ρ = [some (.tup (dm.map dD)), a, b, c]) ⟨rfl, _, _, _, rfl⟩ ?_ ?_
  · rintro j d ρ S' hj ⟨rfl, a, b, c, rfl⟩
    obtain ⟨x, hx, rfl⟩ := enum_at hj
    obtain ⟨p, hp, rfl⟩ := map_at hx
    refine ⟨trivial, _, rfl, ?_⟩
    simp only [PM_ret, PM_bind, PM_guard, PM_slot', PM_eC, PM_eOp, PM_eUn, PM_eT, PM_tV, PM_eAnd, PM_eOr, PM_tAnd, PM_tOr, PM_tNot, PM_eIf, PM_tIf, PM_tCmp, PM_tChn, PM_last, PM_more, PM_aNil, PM_aCons, PM_eTup, PM_eLst, PM_eCall, PM_eNew, PM_eDrop, PM_add, PM_sub, PM_mul, PM_fdiv, PM_mod, PM_pow, PM_neg, PM_lt, PM_le, PM_gt, PM_ge, PM_eqi, PM_nei, own_int, own_bl, own_tup, own_str, PM_isNon, PM_isBl, PM_isnot, PM_tbl, PM_tint, PM_tnon, PM_ttup, PM_lenT, PM_lenF, PM_int, PM_abs, PM_tupT, PM_lstF, PM_ixT, PM_eM, PM_iSeq, PM_seqT, PM_seqF, PM_rng1, PM_rng2, PM_enum, PZ_bind, PZ_nx, PZ_bk, PZ_ct, PZ_rt, SQ_nx, SQ_rt, SQ_ct, SQ_bk, TQ_nx, TQ_ct, TQ_bk, TQ_rt, PZ_seq, PZ_ret, PZ_drop, PZ_if, PZ_asg, PZ_one, PZ_par, PZ_allN, PZ_allC, PZ_tup, PZ_sub, PZ_fld, PZ_for, List.getElem?_cons_zero, List.getElem?_cons_succ, Option.some.injEq, exists_eq_left', exists_eq_left, List.set_cons_zero, List.set_cons_succ, setAll, List.length_cons, List.length_nil, List.map_cons, List.map_nil, Nat.reduceAdd, Nat.reduceSub, List.replicate, List.cons_append, List.nil_append, true_and, and_true, Bool.not_true, Bool.not_false, if_true, if_false, Bool.false_eq_true, D.int.injEq, D.isNon, D.isBl, Nat.reduceLeDiff, dropR_len, Nat.le_refl, ite_true, ite_false, reduceCtorEq]
    refine ⟨_, _, rfl, rfl, ⟨⟨by have := (List.getElem?_eq_some_iff.mp hp).1; omega, by have := (List.getElem?_eq_some_iff.mp hp).1; omega⟩, by rw [List.length_map]; omega, by rw [List.length_map]; omega⟩, ?_⟩
    refine PZ_go (fun _ ρ S2 => S2 = S' ∧ ∃ c, ρ = [some (.tup (dm.map dD)), some (.int j), some (dD p), c]) ⟨rfl, _, rfl⟩ ?_ ?_
    · rintro n d ρ S2 hn ⟨rfl, c, rfl⟩
      obtain ⟨rfl, hlt⟩ := rng_at hn
      rw [List.length_map] at hlt
      refine ⟨trivial, _, rfl, ?_⟩
      have hq : ∃ q, dm[j + 1 + n]? = some q := ⟨_, List.getElem?_eq_getElem (by omega)⟩
      obtain ⟨q, hq⟩ := hq
      have hix : atI (dm.map dD) ((j : Int) + 1 + (n : Int)) = some (dD q) := by
        have := atI_nat (xs := dm.map dD) (n := j + 1 + n) (d := dD q) (by rw [List.getElem?_map, hq]; rfl)
        simpa using this
      simp only [PM_ret, PM_bind, PM_guard, PM_slot', PM_eC, PM_eOp, PM_eUn, PM_eT, PM_tV, PM_eAnd, PM_eOr, PM_tAnd, PM_tOr, PM_tNot, PM_eIf, PM_tIf, PM_tCmp, PM_tChn, PM_last, PM_more, PM_aNil, PM_aCons, PM_eTup, PM_eLst, PM_eCall, PM_eNew, PM_eDrop, PM_add, PM_sub, PM_mul, PM_fdiv, PM_mod, PM_pow, PM_neg, PM_lt, PM_le, PM_gt, PM_ge, PM_eqi, PM_nei, own_int, own_bl, own_tup, own_str, PM_isNon, PM_isBl, PM_isnot, PM_tbl, PM_tint, PM_tnon, PM_ttup, PM_lenT, PM_lenF, PM_int, PM_abs, PM_tupT, PM_lstF, PM_ixT, PM_eM, PM_iSeq, PM_seqT, PM_seqF, PM_rng1, PM_rng2, PM_enum, PZ_bind, PZ_nx, PZ_bk, PZ_ct, PZ_rt, SQ_nx, SQ_rt, SQ_ct, SQ_bk, TQ_nx, TQ_ct, TQ_bk, TQ_rt, PZ_seq, PZ_ret, PZ_drop, PZ_if, PZ_asg, PZ_one, PZ_par, PZ_allN, PZ_allC, PZ_tup, PZ_sub, PZ_fld, PZ_for, List.getElem?_cons_zero, List.getElem?_cons_succ, Option.some.injEq, exists_eq_left', exists_eq_left, List.set_cons_zero, List.set_cons_succ, setAll, List.length_cons, List.length_nil, List.map_cons, List.map_nil, Nat.reduceAdd, Nat.reduceSub, List.replicate, List.cons_append, List.nil_append, true_and, and_true, Bool.not_true, Bool.not_false, if_true, if_false, Bool.false_eq_true, D.int.injEq, D.isNon, D.isBl, Nat.reduceLeDiff, dropR_len, Nat.le_refl, ite_true, ite_false, reduceCtorEq, hix, PM_of (e_clashB (k := k + 1) (S := S2) (h p (mem_of_at hp)) (h q (mem_of_at hq)))]
      cases clashB p q with
      | false => simp only [PM_ret, PM_bind, PM_guard, PM_slot', PM_eC, PM_eOp, PM_eUn, PM_eT, PM_tV, PM_eAnd, PM_eOr, PM_tAnd, PM_tOr, PM_tNot, PM_eIf, PM_tIf, PM_tCmp, PM_tChn, PM_last, PM_more, PM_aNil, PM_aCons, PM_eTup, PM_eLst, PM_eCall, PM_eNew, PM_eDrop, PM_add, PM_sub, PM_mul, PM_fdiv, PM_mod, PM_pow, PM_neg, PM_lt, PM_le, PM_gt, PM_ge, PM_eqi, PM_nei, own_int, own_bl, own_tup, own_str, PM_isNon, PM_isBl, PM_isnot, PM_tbl, PM_tint, PM_tnon, PM_ttup, PM_lenT, PM_lenF, PM_int, PM_abs, PM_tupT, PM_lstF, PM_ixT, PM_eM, PM_iSeq, PM_seqT, PM_seqF, PM_rng1, PM_rng2, PM_enum, PZ_bind, PZ_nx, PZ_bk, PZ_ct, PZ_rt, SQ_nx, SQ_rt, SQ_ct, SQ_bk, TQ_nx, TQ_ct, TQ_bk, TQ_rt, PZ_seq, PZ_ret, PZ_drop, PZ_if, PZ_asg, PZ_one, PZ_par, PZ_allN, PZ_allC, PZ_tup, PZ_sub, PZ_fld, PZ_for, List.getElem?_cons_zero, List.getElem?_cons_succ, Option.some.injEq, exists_eq_left', exists_eq_left, List.set_cons_zero, List.set_cons_succ, setAll, List.length_cons, List.length_nil, List.map_cons, List.map_nil, Nat.reduceAdd, Nat.reduceSub, List.replicate, List.cons_append, List.nil_append, true_and, and_true, Bool.not_true, Bool.not_false, if_true, if_false, Bool.false_eq_true, D.int.injEq, D.isNon, D.isBl, Nat.reduceLeDiff, dropR_len, Nat.le_refl, ite_true, ite_false, reduceCtorEq]; exact ⟨_, rfl⟩
      | true =>
        simp only [PM_ret, PM_bind, PM_guard, PM_slot', PM_eC, PM_eOp, PM_eUn, PM_eT, PM_tV, PM_eAnd, PM_eOr, PM_tAnd, PM_tOr, PM_tNot, PM_eIf, PM_tIf, PM_tCmp, PM_tChn, PM_last, PM_more, PM_aNil, PM_aCons, PM_eTup, PM_eLst, PM_eCall, PM_eNew, PM_eDrop, PM_add, PM_sub, PM_mul, PM_fdiv, PM_mod, PM_pow, PM_neg, PM_lt, PM_le, PM_gt, PM_ge, PM_eqi, PM_nei, own_int, own_bl, own_tup, own_str, PM_isNon, PM_isBl, PM_isnot, PM_tbl, PM_tint, PM_tnon, PM_ttup, PM_lenT, PM_lenF, PM_int, PM_abs, PM_tupT, PM_lstF, PM_ixT, PM_eM, PM_iSeq, PM_seqT, PM_seqF, PM_rng1, PM_rng2, PM_enum, PZ_bind, PZ_nx, PZ_bk, PZ_ct, PZ_rt, SQ_nx, SQ_rt, SQ_ct, SQ_bk, TQ_nx, TQ_ct, TQ_bk, TQ_rt, PZ_seq, PZ_ret, PZ_drop, PZ_if, PZ_asg, PZ_one, PZ_par, PZ_allN, PZ_allC, PZ_tup, PZ_sub, PZ_fld, PZ_for, List.getElem?_cons_zero, List.getElem?_cons_succ, Option.some.injEq, exists_eq_left', exists_eq_left, List.set_cons_zero, List.set_cons_succ, setAll, List.length_cons, List.length_nil, List.map_cons, List.map_nil, Nat.reduceAdd, Nat.reduceSub, List.replicate, List.cons_append, List.nil_append, true_and, and_true, Bool.not_true, Bool.not_false, if_true, if_false, Bool.false_eq_true, D.int.injEq, D.isNon, D.isBl, Nat.reduceLeDiff, dropR_len, Nat.le_refl, ite_true, ite_false, reduceCtorEq, PM_of (e_clash (k := k) (S := S2) (a := .int j) (b := .int ((j : Int) + 1 + (n : Int))) trivial trivial)]
        exact .inr ⟨j, j + 1 + n, by simp⟩
    · rintro ρ S2 ⟨rfl, c, rfl⟩
      exact ⟨trivial, rfl, _, _, _, rfl⟩
  · rintro ρ S' ⟨rfl, a, b, c, rfl⟩
    refine ⟨trivial, ?_⟩
    simp only [PM_ret, PM_bind, PM_guard, PM_slot', PM_eC, PM_eOp, PM_eUn, PM_eT, PM_tV, PM_eAnd, PM_eOr, PM_tAnd, PM_tOr, PM_tNot, PM_eIf, PM_tIf, PM_tCmp, PM_tChn, PM_last, PM_more, PM_aNil, PM_aCons, PM_eTup, PM_eLst, PM_eCall, PM_eNew, PM_eDrop, PM_add, PM_sub, PM_mul, PM_fdiv, PM_mod, PM_pow, PM_neg, PM_lt, PM_le, PM_gt, PM_ge, PM_eqi, PM_nei, own_int, own_bl, own_tup, own_str, PM_isNon, PM_isBl, PM_isnot, PM_tbl, PM_tint, PM_tnon, PM_ttup, PM_lenT, PM_lenF, PM_int, PM_abs, PM_tupT, PM_lstF, PM_ixT, PM_eM, PM_iSeq, PM_seqT, PM_seqF, PM_rng1, PM_rng2, PM_enum, PZ_bind, PZ_nx, PZ_bk, PZ_ct, PZ_rt, SQ_nx, SQ_rt, SQ_ct, SQ_bk, TQ_nx, TQ_ct, TQ_bk, TQ_rt, PZ_seq, PZ_ret, PZ_drop, PZ_if, PZ_asg, PZ_one, PZ_par, PZ_allN, PZ_allC, PZ_tup, PZ_sub, PZ_fld, PZ_for, List.getElem?_cons_zero, List.getElem?_cons_succ, Option.some.injEq, exists_eq_left', exists_eq_left, List.set_cons_zero, List.set_cons_succ, setAll, List.length_cons, List.length_nil, List.map_cons, List.map_nil, Nat.reduceAdd, Nat.reduceSub, List.replicate, List.cons_append, List.nil_append, true_and, and_true, Bool.not_true, Bool.not_false, if_true, if_false, Bool.false_eq_true, D.int.injEq, D.isNon, D.isBl, Nat.reduceLeDiff, dropR_len, Nat.le_refl, ite_true, ite_false, reduceCtorEq]
    exact .inl rfl
end


section
variable {k : Nat} {S : Store} {Q : D → Store → Prop}
theorem fdiv_nat (m n : Nat) : ((m : Int).fdiv (n : Int)) = ((m / n : Nat) : Int) := by
  rw [Int.fdiv_eq_ediv_of_nonneg _ (by omega)]; rfl
theorem divOk_nat {n : Nat} (h : 0 < n) (h2 : n < 2 ^ 64) : divOk (n : Int) := by
  refine ⟨by omega, ?_⟩
  have : (n : Int).natAbs = n := rfl
  rw [this]
  have := (Nat.log2_lt (by omega)).mpr h2
  omega
theorem mulOk_l {i j : Int} (h : -(2 ^ 64) < i) (h2 : i < 2 ^ 64) : mulOk i j := .inl ⟨h, h2⟩
theorem mulOk_r {i j : Int} (h : -(2 ^ 64) < j) (h2 : j < 2 ^ 64) : mulOk i j := .inr (.inl ⟨h, h2⟩)
theorem fdiv_bd {a g : Int} (hg : 0 < g) : (a - g ≤ a.fdiv g ∨ 0 ≤ a.fdiv g) ∧ (a.fdiv g ≤ a ∨ a.fdiv g ≤ 0) := by
  rw [Int.fdiv_eq_ediv_of_nonneg _ (by omega)]
  have e := Int.emod_add_mul_ediv a g
  have h1 := Int.emod_nonneg a (show g ≠ 0 by omega)
  have h2 := Int.emod_lt_of_pos a hg
  have e2 : g * (a / g) = (g - 1) * (a / g) + a / g := by rw [Int.sub_mul, Int.one_mul]; omega
  by_cases hq : 0 ≤ a / g
  · have h3 : 0 ≤ (g - 1) * (a / g) := Int.mul_nonneg (by omega) hq
    exact ⟨.inr hq, .inl (by omega)⟩
  · have h3 : (g - 1) * (a / g) ≤ 0 := Int.mul_nonpos_of_nonneg_of_nonpos (by omega) (by omega)
    exact ⟨.inl (by omega), .inr (by omega)⟩
theorem two_eq (a b : D) : (([a, b] : List D).length ≤ sizeLine) := by simp; have := sizeLine_big; omega
theorem shares_loop {Qr : RS → Prop} : ∀ (b a : Nat) (x0 x1 y0 y1 : Int) (t : Option D), a < 2 ^ 64 → b < 2 ^ 64 → (∀ (x0 x1 : Int) (y t : Option D), Qr (.nx [some (.int (Nat.gcd a b : Nat)), some (.int ((0 : Nat) : Int)), some (.tup [.int x0, .int x1]), y, t] S)) →
    PZ (sWhile (tV (eSlot 1)) (sSeq (sAsg (gOne 4) (eOp oFdiv (eSlot 0) (eSlot 1)))
    (sSeq (sPar [0, 1] (aCons (eSlot 1) (aCons (eOp oSub (eSlot 0) (eOp oMul (eSlot 4) (eSlot 1))) aNil)))
    (sPar [2, 3] (aCons (eSlot 3) (aCons (eTup (aCons (eOp oSub (eOp oIx (eSlot 2) (eC (.int 0))) (eOp oMul (eSlot 4) (eOp oIx (eSlot 3) (eC (.int 0))))) (aCons (eOp oSub (eOp oIx (eSlot 2) (eC (.int 1))) (eOp oMul (eSlot 4) (eOp oIx (eSlot 3) (eC (.int 1))))) aNil))) aNil))))))
      [some (.int a), some (.int b), some (.tup [.int x0, .int x1]), some (.tup [.int y0, .int y1]), t] S Qr := by
  intro b
  induction b using Nat.strongRecOn with
  | ind b ih =>
    intro a x0 x1 y0 y1 t ha hb h
    refine PZ_while ?_
    simp only [PM_ret, PM_bind, PM_guard, PM_slot', PM_eC, PM_eOp, PM_eUn, PM_eT, PM_tV, PM_eAnd, PM_eOr, PM_tAnd, PM_tOr, PM_tNot, PM_eIf, PM_tIf, PM_tCmp, PM_tChn, PM_last, PM_more, PM_aNil, PM_aCons, PM_eTup, PM_eLst, PM_eCall, PM_eNew, PM_eDrop, PM_add, PM_sub, PM_mul, PM_fdiv, PM_mod, PM_pow, PM_neg, PM_lt, PM_le, PM_gt, PM_ge, PM_eqi, PM_nei, own_int, own_bl, own_tup, own_str, PM_isNon, PM_isBl, PM_isnot, PM_tbl, PM_tint, PM_tnon, PM_ttup, PM_lenT, PM_lenF, PM_int, PM_abs, PM_tupT, PM_lstF, PM_ixT, PM_eM, PM_iSeq, PM_seqT, PM_seqF, PM_rng1, PM_rng2, PM_enum, PZ_bind, PZ_nx, PZ_bk, PZ_ct, PZ_rt, SQ_nx, SQ_rt, SQ_ct, SQ_bk, TQ_nx, TQ_ct, TQ_bk, TQ_rt, PZ_seq, PZ_ret, PZ_drop, PZ_if, PZ_asg, PZ_one, PZ_par, PZ_allN, PZ_allC, PZ_tup, PZ_sub, PZ_fld, PZ_for, List.getElem?_cons_zero, List.getElem?_cons_succ, Option.some.injEq, exists_eq_left', exists_eq_left, List.set_cons_zero, List.set_cons_succ, setAll, List.length_cons, List.length_nil, List.map_cons, List.map_nil, Nat.reduceAdd, Nat.reduceSub, List.replicate, List.cons_append, List.nil_append, true_and, and_true, Bool.not_true, Bool.not_false, if_true, if_false, Bool.false_eq_true, D.int.injEq, D.isNon, D.isBl, Nat.reduceLeDiff, dropR_len, Nat.le_refl, ite_true, ite_false, reduceCtorEq]
    by_cases hn : b = 0
    · subst hn
      simp only [bne00, PM_ret, PM_bind, PM_guard, PM_slot', PM_eC, PM_eOp, PM_eUn, PM_eT, PM_tV, PM_eAnd, PM_eOr, PM_tAnd, PM_tOr, PM_tNot, PM_eIf, PM_tIf, PM_tCmp, PM_tChn, PM_last, PM_more, PM_aNil, PM_aCons, PM_eTup, PM_eLst, PM_eCall, PM_eNew, PM_eDrop, PM_add, PM_sub, PM_mul, PM_fdiv, PM_mod, PM_pow, PM_neg, PM_lt, PM_le, PM_gt, PM_ge, PM_eqi, PM_nei, own_int, own_bl, own_tup, own_str, PM_isNon, PM_isBl, PM_isnot, PM_tbl, PM_tint, PM_tnon, PM_ttup, PM_lenT, PM_lenF, PM_int, PM_abs, PM_tupT, PM_lstF, PM_ixT, PM_eM, PM_iSeq, PM_seqT, PM_seqF, PM_rng1, PM_rng2, PM_enum, PZ_bind, PZ_nx, PZ_bk, PZ_ct, PZ_rt, SQ_nx, SQ_rt, SQ_ct, SQ_bk, TQ_nx, TQ_ct, TQ_bk, TQ_rt, PZ_seq, PZ_ret, PZ_drop, PZ_if, PZ_asg, PZ_one, PZ_par, PZ_allN, PZ_allC, PZ_tup, PZ_sub, PZ_fld, PZ_for, List.getElem?_cons_zero, List.getElem?_cons_succ, Option.some.injEq, exists_eq_left', exists_eq_left, List.set_cons_zero, List.set_cons_succ, setAll, List.length_cons, List.length_nil, List.map_cons, List.map_nil, Nat.reduceAdd, Nat.reduceSub, List.replicate, List.cons_append, List.nil_append, true_and, and_true, Bool.not_true, Bool.not_false, if_true, if_false, Bool.false_eq_true, D.int.injEq, D.isNon, D.isBl, Nat.reduceLeDiff, dropR_len, Nat.le_refl, ite_true, ite_false, reduceCtorEq]
      rw [Nat.gcd_zero_right] at h
      exact h _ _ _ _
    · simp only [bne0 hn, PM_ret, PM_bind, PM_guard, PM_slot', PM_eC, PM_eOp, PM_eUn, PM_eT, PM_tV, PM_eAnd, PM_eOr, PM_tAnd, PM_tOr, PM_tNot, PM_eIf, PM_tIf, PM_tCmp, PM_tChn, PM_last, PM_more, PM_aNil, PM_aCons, PM_eTup, PM_eLst, PM_eCall, PM_eNew, PM_eDrop, PM_add, PM_sub, PM_mul, PM_fdiv, PM_mod, PM_pow, PM_neg, PM_lt, PM_le, PM_gt, PM_ge, PM_eqi, PM_nei, own_int, own_bl, own_tup, own_str, PM_isNon, PM_isBl, PM_isnot, PM_tbl, PM_tint, PM_tnon, PM_ttup, PM_lenT, PM_lenF, PM_int, PM_abs, PM_tupT, PM_lstF, PM_ixT, PM_eM, PM_iSeq, PM_seqT, PM_seqF, PM_rng1, PM_rng2, PM_enum, PZ_bind, PZ_nx, PZ_bk, PZ_ct, PZ_rt, SQ_nx, SQ_rt, SQ_ct, SQ_bk, TQ_nx, TQ_ct, TQ_bk, TQ_rt, PZ_seq, PZ_ret, PZ_drop, PZ_if, PZ_asg, PZ_one, PZ_par, PZ_allN, PZ_allC, PZ_tup, PZ_sub, PZ_fld, PZ_for, List.getElem?_cons_zero, List.getElem?_cons_succ, Option.some.injEq, exists_eq_left', exists_eq_left, List.set_cons_zero, List.set_cons_succ, setAll, List.length_cons, List.length_nil, List.map_cons, List.map_nil, Nat.reduceAdd, Nat.reduceSub, List.replicate, List.cons_append, List.nil_append, true_and, and_true, Bool.not_true, Bool.not_false, if_true, if_false, Bool.false_eq_true, D.int.injEq, D.isNon, D.isBl, Nat.reduceLeDiff, dropR_len, Nat.le_refl, ite_true, ite_false, reduceCtorEq]
      rw [fdiv_nat]
      have hd : a / b ≤ a := Nat.div_le_self a b
      have hm : ∀ j : Int, mulOk (((a / b : Nat)) : Int) j := fun j => mulOk_l (Int.lt_of_lt_of_le (by decide) (Int.natCast_nonneg _)) (by have h9 : (((a / b : Nat)) : Int) ≤ ((a : Nat) : Int) := Int.ofNat_le.mpr hd; omega)
      have e : (a : Int) - ((a / b : Nat) : Int) * (b : Int) = ((a % b : Nat) : Int) := by
        have := Nat.div_add_mod a b
        have e2 : ((a / b : Nat) : Int) * (b : Int) = ((b * (a / b) : Nat) : Int) := by rw [Nat.mul_comm]; rfl
        rw [e2]; omega
      refine ⟨divOk_nat (by omega) hb, ?_⟩
      simp only [at0, at1, PM_ret, PM_bind, PM_guard, PM_slot', PM_eC, PM_eOp, PM_eUn, PM_eT, PM_tV, PM_eAnd, PM_eOr, PM_tAnd, PM_tOr, PM_tNot, PM_eIf, PM_tIf, PM_tCmp, PM_tChn, PM_last, PM_more, PM_aNil, PM_aCons, PM_eTup, PM_eLst, PM_eCall, PM_eNew, PM_eDrop, PM_add, PM_sub, PM_mul, PM_fdiv, PM_mod, PM_pow, PM_neg, PM_lt, PM_le, PM_gt, PM_ge, PM_eqi, PM_nei, own_int, own_bl, own_tup, own_str, PM_isNon, PM_isBl, PM_isnot, PM_tbl, PM_tint, PM_tnon, PM_ttup, PM_lenT, PM_lenF, PM_int, PM_abs, PM_tupT, PM_lstF, PM_ixT, PM_eM, PM_iSeq, PM_seqT, PM_seqF, PM_rng1, PM_rng2, PM_enum, PZ_bind, PZ_nx, PZ_bk, PZ_ct, PZ_rt, SQ_nx, SQ_rt, SQ_ct, SQ_bk, TQ_nx, TQ_ct, TQ_bk, TQ_rt, PZ_seq, PZ_ret, PZ_drop, PZ_if, PZ_asg, PZ_one, PZ_par, PZ_allN, PZ_allC, PZ_tup, PZ_sub, PZ_fld, PZ_for, List.getElem?_cons_zero, List.getElem?_cons_succ, Option.some.injEq, exists_eq_left', exists_eq_left, List.set_cons_zero, List.set_cons_succ, setAll, List.length_cons, List.length_nil, List.map_cons, List.map_nil, Nat.reduceAdd, Nat.reduceSub, List.replicate, List.cons_append, List.nil_append, true_and, and_true, Bool.not_true, Bool.not_false, if_true, if_false, Bool.false_eq_true, D.int.injEq, D.isNon, D.isBl, Nat.reduceLeDiff, dropR_len, Nat.le_refl, ite_true, ite_false, reduceCtorEq, hm, e, big2]
      exact ih (a % b) (Nat.mod_lt _ (by omega)) b _ _ _ _ _ hb (Nat.lt_trans (Nat.mod_lt _ (by omega)) hb) (fun x0 x1 y t => by rw [← gcd_step]; exact h x0 x1 y t)
theorem e_shares {a b : Nat} (ha : a < 2 ^ 64) (hb : b < 2 ^ 64) : PM ((CC (k + 1)).fn 14 [.int a, .int b]) S fun d S' => S' = S ∧ ∃ x0 x1 : Int, d = .tup [.int (Nat.gcd a b : Nat), .tup [.int x0, .int x1]] := by
  refine PM_fn rfl rfl rfl ?_
  unfold b_shares_of
  simp only [PM_ret, PM_bind, PM_guard, PM_slot', PM_eC, PM_eOp, PM_eUn, PM_eT, PM_tV, PM_eAnd, PM_eOr, PM_tAnd, PM_tOr, PM_tNot, PM_eIf, PM_tIf, PM_tCmp, PM_tChn, PM_last, PM_more, PM_aNil, PM_aCons, PM_eTup, PM_eLst, PM_eCall, PM_eNew, PM_eDrop, PM_add, PM_sub, PM_mul, PM_fdiv, PM_mod, PM_pow, PM_neg, PM_lt, PM_le, PM_gt, PM_ge, PM_eqi, PM_nei, own_int, own_bl, own_tup, own_str, PM_isNon, PM_isBl, PM_isnot, PM_tbl, PM_tint, PM_tnon, PM_ttup, PM_lenT, PM_lenF, PM_int, PM_abs, PM_tupT, PM_lstF, PM_ixT, PM_eM, PM_iSeq, PM_seqT, PM_seqF, PM_rng1, PM_rng2, PM_enum, PZ_bind, PZ_nx, PZ_bk, PZ_ct, PZ_rt, SQ_nx, SQ_rt, SQ_ct, SQ_bk, TQ_nx, TQ_ct, TQ_bk, TQ_rt, PZ_seq, PZ_ret, PZ_drop, PZ_if, PZ_asg, PZ_one, PZ_par, PZ_allN, PZ_allC, PZ_tup, PZ_sub, PZ_fld, PZ_for, List.getElem?_cons_zero, List.getElem?_cons_succ, Option.some.injEq, exists_eq_left', exists_eq_left, List.set_cons_zero, List.set_cons_succ, setAll, List.length_cons, List.length_nil, List.map_cons, List.map_nil, Nat.reduceAdd, Nat.reduceSub, List.replicate, List.cons_append, List.nil_append, true_and, and_true, Bool.not_true, Bool.not_false, if_true, if_false, Bool.false_eq_true, D.int.injEq, D.isNon, D.isBl, Nat.reduceLeDiff, dropR_len, Nat.le_refl, ite_true, ite_false, reduceCtorEq, big2]
  refine shares_loop b a _ _ _ _ _ ha hb fun x0 x1 y t => ?_
  simp only [PM_ret, PM_bind, PM_guard, PM_slot', PM_eC, PM_eOp, PM_eUn, PM_eT, PM_tV, PM_eAnd, PM_eOr, PM_tAnd, PM_tOr, PM_tNot, PM_eIf, PM_tIf, PM_tCmp, PM_tChn, PM_last, PM_more, PM_aNil, PM_aCons, PM_eTup, PM_eLst, PM_eCall, PM_eNew, PM_eDrop, PM_add, PM_sub, PM_mul, PM_fdiv, PM_mod, PM_pow, PM_neg, PM_lt, PM_le, PM_gt, PM_ge, PM_eqi, PM_nei, own_int, own_bl, own_tup, own_str, PM_isNon, PM_isBl, PM_isnot, PM_tbl, PM_tint, PM_tnon, PM_ttup, PM_lenT, PM_lenF, PM_int, PM_abs, PM_tupT, PM_lstF, PM_ixT, PM_eM, PM_iSeq, PM_seqT, PM_seqF, PM_rng1, PM_rng2, PM_enum, PZ_bind, PZ_nx, PZ_bk, PZ_ct, PZ_rt, SQ_nx, SQ_rt, SQ_ct, SQ_bk, TQ_nx, TQ_ct, TQ_bk, TQ_rt, PZ_seq, PZ_ret, PZ_drop, PZ_if, PZ_asg, PZ_one, PZ_par, PZ_allN, PZ_allC, PZ_tup, PZ_sub, PZ_fld, PZ_for, List.getElem?_cons_zero, List.getElem?_cons_succ, Option.some.injEq, exists_eq_left', exists_eq_left, List.set_cons_zero, List.set_cons_succ, setAll, List.length_cons, List.length_nil, List.map_cons, List.map_nil, Nat.reduceAdd, Nat.reduceSub, List.replicate, List.cons_append, List.nil_append, true_and, and_true, Bool.not_true, Bool.not_false, if_true, if_false, Bool.false_eq_true, D.int.injEq, D.isNon, D.isBl, Nat.reduceLeDiff, dropR_len, Nat.le_refl, ite_true, ite_false, reduceCtorEq, big2]
  exact ⟨_, _, rfl⟩
theorem e_both {n1 n2 : Int} {b1 b2 : Nat} (h1 : 0 ≤ n1) (h2 : n1 < b1) (h3 : b1 < 2 ^ 40) (hq : okD (n2, b2)) : PM ((CC (k + 2)).fn 15 [.tup [.int n1, .int b1], dD (n2, b2)]) S fun d S' => S' = S ∧ ∃ (n : Int) (b : Nat), d = .tup [.int n, .int b] ∧ 0 ≤ n ∧ n < b ∧ b ≤ b1 * 24 := by
  refine PM_fn rfl rfl rfl ?_
  unfold b_both_demands dD
  obtain ⟨q1, q2, q3, q4⟩ := hq
  simp only at q1 q2 q3 q4
  simp only [PM_ret, PM_bind, PM_guard, PM_slot', PM_eC, PM_eOp, PM_eUn, PM_eT, PM_tV, PM_eAnd, PM_eOr, PM_tAnd, PM_tOr, PM_tNot, PM_eIf, PM_tIf, PM_tCmp, PM_tChn, PM_last, PM_more, PM_aNil, PM_aCons, PM_eTup, PM_eLst, PM_eCall, PM_eNew, PM_eDrop, PM_add, PM_sub, PM_mul, PM_fdiv, PM_mod, PM_pow, PM_neg, PM_lt, PM_le, PM_gt, PM_ge, PM_eqi, PM_nei, own_int, own_bl, own_tup, own_str, PM_isNon, PM_isBl, PM_isnot, PM_tbl, PM_tint, PM_tnon, PM_ttup, PM_lenT, PM_lenF, PM_int, PM_abs, PM_tupT, PM_lstF, PM_ixT, PM_eM, PM_iSeq, PM_seqT, PM_seqF, PM_rng1, PM_rng2, PM_enum, PZ_bind, PZ_nx, PZ_bk, PZ_ct, PZ_rt, SQ_nx, SQ_rt, SQ_ct, SQ_bk, TQ_nx, TQ_ct, TQ_bk, TQ_rt, PZ_seq, PZ_ret, PZ_drop, PZ_if, PZ_asg, PZ_one, PZ_par, PZ_allN, PZ_allC, PZ_tup, PZ_sub, PZ_fld, PZ_for, List.getElem?_cons_zero, List.getElem?_cons_succ, Option.some.injEq, exists_eq_left', exists_eq_left, List.set_cons_zero, List.set_cons_succ, setAll, List.length_cons, List.length_nil, List.map_cons, List.map_nil, Nat.reduceAdd, Nat.reduceSub, List.replicate, List.cons_append, List.nil_append, true_and, and_true, Bool.not_true, Bool.not_false, if_true, if_false, Bool.false_eq_true, D.int.injEq, D.isNon, D.isBl, Nat.reduceLeDiff, dropR_len, Nat.le_refl, ite_true, ite_false, reduceCtorEq, at0, at1]
  refine (e_shares (k := k) (S := S) (a := b1) (b := b2) (by omega) (by omega)).imp ?_
  rintro d S' ⟨rfl, x0, x1, rfl⟩
  have hg : 0 < Nat.gcd b1 b2 := Nat.gcd_pos_of_pos_right _ (by omega)
  have hgl : Nat.gcd b1 b2 ≤ b2 := Nat.gcd_le_right _ (by omega)
  have hg1 : Nat.gcd b1 b2 ≤ b1 := Nat.gcd_le_left _ (by omega)
  have hdl : b1 / Nat.gcd b1 b2 ≤ b1 := Nat.div_le_self _ _
  have hdp : 0 < b1 / Nat.gcd b1 b2 := Nat.div_pos hg1 hg
  have hdv : divOk ((Nat.gcd b1 b2 : Nat) : Int) := divOk_nat hg (by omega)
  have m1 : mulOk ((b1 / Nat.gcd b1 b2 : Nat) : Int) (b2 : Int) := mulOk_r (by omega) (by omega)
  have m2 : mulOk (b1 : Int) x0 := mulOk_l (by omega) (by omega)
  obtain ⟨f1, f2⟩ := fdiv_bd (a := n2 - n1) (g := ((Nat.gcd b1 b2 : Nat) : Int)) (by omega)
  have m3 : mulOk ((b1 : Int) * x0) ((n2 - n1).fdiv ((Nat.gcd b1 b2 : Nat) : Int)) := mulOk_r (by rcases f1 with f1 | f1 <;> omega) (by rcases f2 with f2 | f2 <;> omega)
  have hb : 0 < b1 / Nat.gcd b1 b2 * b2 := Nat.mul_pos hdp (by omega)
  have eb : ((b1 / Nat.gcd b1 b2 : Nat) : Int) * (b2 : Int) = ((b1 / Nat.gcd b1 b2 * b2 : Nat) : Int) := rfl
  simp only [PM_ret, PM_bind, PM_guard, PM_slot', PM_eC, PM_eOp, PM_eUn, PM_eT, PM_tV, PM_eAnd, PM_eOr, PM_tAnd, PM_tOr, PM_tNot, PM_eIf, PM_tIf, PM_tCmp, PM_tChn, PM_last, PM_more, PM_aNil, PM_aCons, PM_eTup, PM_eLst, PM_eCall, PM_eNew, PM_eDrop, PM_add, PM_sub, PM_mul, PM_fdiv, PM_mod, PM_pow, PM_neg, PM_lt, PM_le, PM_gt, PM_ge, PM_eqi, PM_nei, own_int, own_bl, own_tup, own_str, PM_isNon, PM_isBl, PM_isnot, PM_tbl, PM_tint, PM_tnon, PM_ttup, PM_lenT, PM_lenF, PM_int, PM_abs, PM_tupT, PM_lstF, PM_ixT, PM_eM, PM_iSeq, PM_seqT, PM_seqF, PM_rng1, PM_rng2, PM_enum, PZ_bind, PZ_nx, PZ_bk, PZ_ct, PZ_rt, SQ_nx, SQ_rt, SQ_ct, SQ_bk, TQ_nx, TQ_ct, TQ_bk, TQ_rt, PZ_seq, PZ_ret, PZ_drop, PZ_if, PZ_asg, PZ_one, PZ_par, PZ_allN, PZ_allC, PZ_tup, PZ_sub, PZ_fld, PZ_for, List.getElem?_cons_zero, List.getElem?_cons_succ, Option.some.injEq, exists_eq_left', exists_eq_left, List.set_cons_zero, List.set_cons_succ, setAll, List.length_cons, List.length_nil, List.map_cons, List.map_nil, Nat.reduceAdd, Nat.reduceSub, List.replicate, List.cons_append, List.nil_append, true_and, and_true, Bool.not_true, Bool.not_false, if_true, if_false, Bool.false_eq_true, D.int.injEq, D.isNon, D.isBl, Nat.reduceLeDiff, dropR_len, Nat.le_refl, ite_true, ite_false, reduceCtorEq, at0, at1, fdiv_nat, hdv, m1, m2, m3, eb, big2]
  refine ⟨by omega, _, _, rfl, Int.fmod_nonneg_of_pos _ (by omega), Int.fmod_lt_of_pos _ (by omega), Nat.mul_le_mul hdl q4⟩
theorem e_foundby {dm : List (Int × Nat)} (h : ∀ p ∈ dm, okD p) (hl : dm.length ≤ 5) : PM ((CC (k + 3)).fn 16 [.tup (dm.map dD)]) S fun d S' => S' = S ∧ ∃ (n : Int) (b : Nat), d = .tup [.int n, .int b] ∧ 0 ≤ n ∧ n < b ∧ b ≤ 24 ^ 5 := by
  refine PM_fn rfl rfl rfl ?_
  unfold b_found_by
  simp only [PM_ret, PM_bind, PM_guard, PM_slot', PM_eC, PM_eOp, PM_eUn, PM_eT, PM_tV, PM_eAnd, PM_eOr, PM_tAnd, PM_tOr, PM_tNot, PM_eIf, PM_tIf, PM_tCmp, PM_tChn, PM_last, PM_more, PM_aNil, PM_aCons, PM_eTup, PM_eLst, PM_eCall, PM_eNew, PM_eDrop, PM_add, PM_sub, PM_mul, PM_fdiv, PM_mod, PM_pow, PM_neg, PM_lt, PM_le, PM_gt, PM_ge, PM_eqi, PM_nei, own_int, own_bl, own_tup, own_str, PM_isNon, PM_isBl, PM_isnot, PM_tbl, PM_tint, PM_tnon, PM_ttup, PM_lenT, PM_lenF, PM_int, PM_abs, PM_tupT, PM_lstF, PM_ixT, PM_eM, PM_iSeq, PM_seqT, PM_seqF, PM_rng1, PM_rng2, PM_enum, PZ_bind, PZ_nx, PZ_bk, PZ_ct, PZ_rt, SQ_nx, SQ_rt, SQ_ct, SQ_bk, TQ_nx, TQ_ct, TQ_bk, TQ_rt, PZ_seq, PZ_ret, PZ_drop, PZ_if, PZ_asg, PZ_one, PZ_par, PZ_allN, PZ_allC, PZ_tup, PZ_sub, PZ_fld, PZ_for, List.getElem?_cons_zero, List.getElem?_cons_succ, Option.some.injEq, exists_eq_left', exists_eq_left, List.set_cons_zero, List.set_cons_succ, setAll, List.length_cons, List.length_nil, List.map_cons, List.map_nil, Nat.reduceAdd, Nat.reduceSub, List.replicate, List.cons_append, List.nil_append, true_and, and_true, Bool.not_true, Bool.not_false, if_true, if_false, Bool.false_eq_true, D.int.injEq, D.isNon, D.isBl, Nat.reduceLeDiff, dropR_len, Nat.le_refl, ite_true, ite_false, reduceCtorEq, big2]
  refine PZ_go (fun j ρ S' => S' = S ∧ j ≤ 5 ∧ ∃ (n : Int) (b : Nat) (c : Option D), ρ = [some (.tup (dm.map dD)), some (.tup [.int n, .int b]), c] ∧ 0 ≤ n ∧ n < b ∧ b ≤ 24 ^ j) ⟨rfl, by omega, 0, 1, _, rfl, by omega, by omega, by omega⟩ ?_ ?_
  · rintro j d ρ S' hj ⟨rfl, hj5, n, b, c, rfl, h1, h2, h3⟩
    obtain ⟨p, hp, rfl⟩ := map_at hj
    have hlt := (List.getElem?_eq_some_iff.mp hp).1
    refine ⟨trivial, _, rfl, ?_⟩
    simp only [PM_ret, PM_bind, PM_guard, PM_slot', PM_eC, PM_eOp, PM_eUn, PM_eT, PM_tV, PM_eAnd, PM_eOr, PM_tAnd, PM_tOr, PM_tNot, PM_eIf, PM_tIf, PM_tCmp, PM_tChn, PM_last, PM_more, PM_aNil, PM_aCons, PM_eTup, PM_eLst, PM_eCall, PM_eNew, PM_eDrop, PM_add, PM_sub, PM_mul, PM_fdiv, PM_mod, PM_pow, PM_neg, PM_lt, PM_le, PM_gt, PM_ge, PM_eqi, PM_nei, own_int, own_bl, own_tup, own_str, PM_isNon, PM_isBl, PM_isnot, PM_tbl, PM_tint, PM_tnon, PM_ttup, PM_lenT, PM_lenF, PM_int, PM_abs, PM_tupT, PM_lstF, PM_ixT, PM_eM, PM_iSeq, PM_seqT, PM_seqF, PM_rng1, PM_rng2, PM_enum, PZ_bind, PZ_nx, PZ_bk, PZ_ct, PZ_rt, SQ_nx, SQ_rt, SQ_ct, SQ_bk, TQ_nx, TQ_ct, TQ_bk, TQ_rt, PZ_seq, PZ_ret, PZ_drop, PZ_if, PZ_asg, PZ_one, PZ_par, PZ_allN, PZ_allC, PZ_tup, PZ_sub, PZ_fld, PZ_for, List.getElem?_cons_zero, List.getElem?_cons_succ, Option.some.injEq, exists_eq_left', exists_eq_left, List.set_cons_zero, List.set_cons_succ, setAll, List.length_cons, List.length_nil, List.map_cons, List.map_nil, Nat.reduceAdd, Nat.reduceSub, List.replicate, List.cons_append, List.nil_append, true_and, and_true, Bool.not_true, Bool.not_false, if_true, if_false, Bool.false_eq_true, D.int.injEq, D.isNon, D.isBl, Nat.reduceLeDiff, dropR_len, Nat.le_refl, ite_true, ite_false, reduceCtorEq]
    have h4 : 24 ^ j ≤ 24 ^ 5 := Nat.pow_le_pow_right (by omega) (by omega)
    have h5 : (24 : Nat) ^ 5 < 2 ^ 40 := by decide
    refine (e_both (k := k) (S := S') (n1 := n) (b1 := b) (n2 := p.1) (b2 := p.2) h1 h2 (by omega) (h p (mem_of_at hp))).imp ?_
    rintro d S2 ⟨rfl, n', b', rfl, g1, g2, g3⟩
    simp only [PM_ret, PM_bind, PM_guard, PM_slot', PM_eC, PM_eOp, PM_eUn, PM_eT, PM_tV, PM_eAnd, PM_eOr, PM_tAnd, PM_tOr, PM_tNot, PM_eIf, PM_tIf, PM_tCmp, PM_tChn, PM_last, PM_more, PM_aNil, PM_aCons, PM_eTup, PM_eLst, PM_eCall, PM_eNew, PM_eDrop, PM_add, PM_sub, PM_mul, PM_fdiv, PM_mod, PM_pow, PM_neg, PM_lt, PM_le, PM_gt, PM_ge, PM_eqi, PM_nei, own_int, own_bl, own_tup, own_str, PM_isNon, PM_isBl, PM_isnot, PM_tbl, PM_tint, PM_tnon, PM_ttup, PM_lenT, PM_lenF, PM_int, PM_abs, PM_tupT, PM_lstF, PM_ixT, PM_eM, PM_iSeq, PM_seqT, PM_seqF, PM_rng1, PM_rng2, PM_enum, PZ_bind, PZ_nx, PZ_bk, PZ_ct, PZ_rt, SQ_nx, SQ_rt, SQ_ct, SQ_bk, TQ_nx, TQ_ct, TQ_bk, TQ_rt, PZ_seq, PZ_ret, PZ_drop, PZ_if, PZ_asg, PZ_one, PZ_par, PZ_allN, PZ_allC, PZ_tup, PZ_sub, PZ_fld, PZ_for, List.getElem?_cons_zero, List.getElem?_cons_succ, Option.some.injEq, exists_eq_left', exists_eq_left, List.set_cons_zero, List.set_cons_succ, setAll, List.length_cons, List.length_nil, List.map_cons, List.map_nil, Nat.reduceAdd, Nat.reduceSub, List.replicate, List.cons_append, List.nil_append, true_and, and_true, Bool.not_true, Bool.not_false, if_true, if_false, Bool.false_eq_true, D.int.injEq, D.isNon, D.isBl, Nat.reduceLeDiff, dropR_len, Nat.le_refl, ite_true, ite_false, reduceCtorEq]
    refine ⟨by omega, n', b', _, rfl, g1, g2, ?_⟩
    rw [Nat.pow_succ]
    exact Nat.le_trans g3 (Nat.mul_le_mul_right _ h3)
  · rintro ρ S' ⟨rfl, _, n, b, c, rfl, h1, h2, h3⟩
    refine ⟨trivial, ?_⟩
    simp only [PM_ret, PM_bind, PM_guard, PM_slot', PM_eC, PM_eOp, PM_eUn, PM_eT, PM_tV, PM_eAnd, PM_eOr, PM_tAnd, PM_tOr, PM_tNot, PM_eIf, PM_tIf, PM_tCmp, PM_tChn, PM_last, PM_more, PM_aNil, PM_aCons, PM_eTup, PM_eLst, PM_eCall, PM_eNew, PM_eDrop, PM_add, PM_sub, PM_mul, PM_fdiv, PM_mod, PM_pow, PM_neg, PM_lt, PM_le, PM_gt, PM_ge, PM_eqi, PM_nei, own_int, own_bl, own_tup, own_str, PM_isNon, PM_isBl, PM_isnot, PM_tbl, PM_tint, PM_tnon, PM_ttup, PM_lenT, PM_lenF, PM_int, PM_abs, PM_tupT, PM_lstF, PM_ixT, PM_eM, PM_iSeq, PM_seqT, PM_seqF, PM_rng1, PM_rng2, PM_enum, PZ_bind, PZ_nx, PZ_bk, PZ_ct, PZ_rt, SQ_nx, SQ_rt, SQ_ct, SQ_bk, TQ_nx, TQ_ct, TQ_bk, TQ_rt, PZ_seq, PZ_ret, PZ_drop, PZ_if, PZ_asg, PZ_one, PZ_par, PZ_allN, PZ_allC, PZ_tup, PZ_sub, PZ_fld, PZ_for, List.getElem?_cons_zero, List.getElem?_cons_succ, Option.some.injEq, exists_eq_left', exists_eq_left, List.set_cons_zero, List.set_cons_succ, setAll, List.length_cons, List.length_nil, List.map_cons, List.map_nil, Nat.reduceAdd, Nat.reduceSub, List.replicate, List.cons_append, List.nil_append, true_and, and_true, Bool.not_true, Bool.not_false, if_true, if_false, Bool.false_eq_true, D.int.injEq, D.isNon, D.isBl, Nat.reduceLeDiff, dropR_len, Nat.le_refl, ite_true, ite_false, reduceCtorEq]
    refine ⟨n, b, rfl, h1, h2, Nat.le_trans h3 (Nat.pow_le_pow_right (by omega) ?_)⟩
    rw [List.length_map]; exact hl
/-- what found_or_clash gives -/
def toldD (d : D) : Prop := (∃ (n : Int) (b : Nat), d = .obj 0 [.int n, .int b] ∧ 0 ≤ n ∧ n < 2 ^ 40) ∨ ∃ i j : Nat, d = .obj 1 [.int i, .int j]
theorem e_foc {dm : List (Int × Nat)} (h : ∀ p ∈ dm, okD p) (hl : dm.length ≤ 5) : PM ((CC (k + 5)).fn 17 [.tup (dm.map dD)]) S fun d S' => S' = S ∧ toldD d := by
  refine PM_fn rfl rfl rfl ?_
  unfold b_found_or_clash
  simp only [PM_ret, PM_bind, PM_guard, PM_slot', PM_eC, PM_eOp, PM_eUn, PM_eT, PM_tV, PM_eAnd, PM_eOr, PM_tAnd, PM_tOr, PM_tNot, PM_eIf, PM_tIf, PM_tCmp, PM_tChn, PM_last, PM_more, PM_aNil, PM_aCons, PM_eTup, PM_eLst, PM_eCall, PM_eNew, PM_eDrop, PM_add, PM_sub, PM_mul, PM_fdiv, PM_mod, PM_pow, PM_neg, PM_lt, PM_le, PM_gt, PM_ge, PM_eqi, PM_nei, own_int, own_bl, own_tup, own_str, PM_isNon, PM_isBl, PM_isnot, PM_tbl, PM_tint, PM_tnon, PM_ttup, PM_lenT, PM_lenF, PM_int, PM_abs, PM_tupT, PM_lstF, PM_ixT, PM_eM, PM_iSeq, PM_seqT, PM_seqF, PM_rng1, PM_rng2, PM_enum, PZ_bind, PZ_nx, PZ_bk, PZ_ct, PZ_rt, SQ_nx, SQ_rt, SQ_ct, SQ_bk, TQ_nx, TQ_ct, TQ_bk, TQ_rt, PZ_seq, PZ_ret, PZ_drop, PZ_if, PZ_asg, PZ_one, PZ_par, PZ_allN, PZ_allC, PZ_tup, PZ_sub, PZ_fld, PZ_for, List.getElem?_cons_zero, List.getElem?_cons_succ, Option.some.injEq, exists_eq_left', exists_eq_left, List.set_cons_zero, List.set_cons_succ, setAll, List.length_cons, List.length_nil, List.map_cons, List.map_nil, Nat.reduceAdd, Nat.reduceSub, List.replicate, List.cons_append, List.nil_append, true_and, and_true, Bool.not_true, Bool.not_false, if_true, if_false, Bool.false_eq_true, D.int.injEq, D.isNon, D.isBl, Nat.reduceLeDiff, dropR_len, Nat.le_refl, ite_true, ite_false, reduceCtorEq, PM_of (e_need (k := k + 1) (S := S) h (by omega))]
  refine (e_first (k := k) (S := S) h (by omega)).imp ?_
  rintro d S' ⟨hd, rfl⟩
  rcases hd with rfl | ⟨i, j, rfl⟩
  · simp only [PM_ret, PM_bind, PM_guard, PM_slot', PM_eC, PM_eOp, PM_eUn, PM_eT, PM_tV, PM_eAnd, PM_eOr, PM_tAnd, PM_tOr, PM_tNot, PM_eIf, PM_tIf, PM_tCmp, PM_tChn, PM_last, PM_more, PM_aNil, PM_aCons, PM_eTup, PM_eLst, PM_eCall, PM_eNew, PM_eDrop, PM_add, PM_sub, PM_mul, PM_fdiv, PM_mod, PM_pow, PM_neg, PM_lt, PM_le, PM_gt, PM_ge, PM_eqi, PM_nei, own_int, own_bl, own_tup, own_str, PM_isNon, PM_isBl, PM_isnot, PM_tbl, PM_tint, PM_tnon, PM_ttup, PM_lenT, PM_lenF, PM_int, PM_abs, PM_tupT, PM_lstF, PM_ixT, PM_eM, PM_iSeq, PM_seqT, PM_seqF, PM_rng1, PM_rng2, PM_enum, PZ_bind, PZ_nx, PZ_bk, PZ_ct, PZ_rt, SQ_nx, SQ_rt, SQ_ct, SQ_bk, TQ_nx, TQ_ct, TQ_bk, TQ_rt, PZ_seq, PZ_ret, PZ_drop, PZ_if, PZ_asg, PZ_one, PZ_par, PZ_allN, PZ_allC, PZ_tup, PZ_sub, PZ_fld, PZ_for, List.getElem?_cons_zero, List.getElem?_cons_succ, Option.some.injEq, exists_eq_left', exists_eq_left, List.set_cons_zero, List.set_cons_succ, setAll, List.length_cons, List.length_nil, List.map_cons, List.map_nil, Nat.reduceAdd, Nat.reduceSub, List.replicate, List.cons_append, List.nil_append, true_and, and_true, Bool.not_true, Bool.not_false, if_true, if_false, Bool.false_eq_true, D.int.injEq, D.isNon, D.isBl, Nat.reduceLeDiff, dropR_len, Nat.le_refl, ite_true, ite_false, reduceCtorEq]
    refine (e_foundby (k := k + 1) (S := S') h hl).imp ?_
    rintro d S2 ⟨rfl, n, b, rfl, h1, h2, h3⟩
    have h5 : (24 : Nat) ^ 5 < 2 ^ 40 := by decide
    simp only [PM_ret, PM_bind, PM_guard, PM_slot', PM_eC, PM_eOp, PM_eUn, PM_eT, PM_tV, PM_eAnd, PM_eOr, PM_tAnd, PM_tOr, PM_tNot, PM_eIf, PM_tIf, PM_tCmp, PM_tChn, PM_last, PM_more, PM_aNil, PM_aCons, PM_eTup, PM_eLst, PM_eCall, PM_eNew, PM_eDrop, PM_add, PM_sub, PM_mul, PM_fdiv, PM_mod, PM_pow, PM_neg, PM_lt, PM_le, PM_gt, PM_ge, PM_eqi, PM_nei, own_int, own_bl, own_tup, own_str, PM_isNon, PM_isBl, PM_isnot, PM_tbl, PM_tint, PM_tnon, PM_ttup, PM_lenT, PM_lenF, PM_int, PM_abs, PM_tupT, PM_lstF, PM_ixT, PM_eM, PM_iSeq, PM_seqT, PM_seqF, PM_rng1, PM_rng2, PM_enum, PZ_bind, PZ_nx, PZ_bk, PZ_ct, PZ_rt, SQ_nx, SQ_rt, SQ_ct, SQ_bk, TQ_nx, TQ_ct, TQ_bk, TQ_rt, PZ_seq, PZ_ret, PZ_drop, PZ_if, PZ_asg, PZ_one, PZ_par, PZ_allN, PZ_allC, PZ_tup, PZ_sub, PZ_fld, PZ_for, List.getElem?_cons_zero, List.getElem?_cons_succ, Option.some.injEq, exists_eq_left', exists_eq_left, List.set_cons_zero, List.set_cons_succ, setAll, List.length_cons, List.length_nil, List.map_cons, List.map_nil, Nat.reduceAdd, Nat.reduceSub, List.replicate, List.cons_append, List.nil_append, true_and, and_true, Bool.not_true, Bool.not_false, if_true, if_false, Bool.false_eq_true, D.int.injEq, D.isNon, D.isBl, Nat.reduceLeDiff, dropR_len, Nat.le_refl, ite_true, ite_false, reduceCtorEq, PM_of (e_found (k := k + 1) (S := S2) (a := .int n) (b := .int b) trivial trivial)]
    exact .inl ⟨n, b, rfl, h1, by omega⟩
  · simp only [PM_ret, PM_bind, PM_guard, PM_slot', PM_eC, PM_eOp, PM_eUn, PM_eT, PM_tV, PM_eAnd, PM_eOr, PM_tAnd, PM_tOr, PM_tNot, PM_eIf, PM_tIf, PM_tCmp, PM_tChn, PM_last, PM_more, PM_aNil, PM_aCons, PM_eTup, PM_eLst, PM_eCall, PM_eNew, PM_eDrop, PM_add, PM_sub, PM_mul, PM_fdiv, PM_mod, PM_pow, PM_neg, PM_lt, PM_le, PM_gt, PM_ge, PM_eqi, PM_nei, own_int, own_bl, own_tup, own_str, PM_isNon, PM_isBl, PM_isnot, PM_tbl, PM_tint, PM_tnon, PM_ttup, PM_lenT, PM_lenF, PM_int, PM_abs, PM_tupT, PM_lstF, PM_ixT, PM_eM, PM_iSeq, PM_seqT, PM_seqF, PM_rng1, PM_rng2, PM_enum, PZ_bind, PZ_nx, PZ_bk, PZ_ct, PZ_rt, SQ_nx, SQ_rt, SQ_ct, SQ_bk, TQ_nx, TQ_ct, TQ_bk, TQ_rt, PZ_seq, PZ_ret, PZ_drop, PZ_if, PZ_asg, PZ_one, PZ_par, PZ_allN, PZ_allC, PZ_tup, PZ_sub, PZ_fld, PZ_for, List.getElem?_cons_zero, List.getElem?_cons_succ, Option.some.injEq, exists_eq_left', exists_eq_left, List.set_cons_zero, List.set_cons_succ, setAll, List.length_cons, List.length_nil, List.map_cons, List.map_nil, Nat.reduceAdd, Nat.reduceSub, List.replicate, List.cons_append, List.nil_append, true_and, and_true, Bool.not_true, Bool.not_false, if_true, if_false, Bool.false_eq_true, D.int.injEq, D.isNon, D.isBl, Nat.reduceLeDiff, dropR_len, Nat.le_refl, ite_true, ite_false, reduceCtorEq]
    exact .inr ⟨i, j, rfl⟩
end


section
variable {k : Nat} {S : Store} {Q : D → Store → Prop}
def lcA (f : Nat) (dm : List (Int × Nat)) : Nat := dm.foldl (fun f p => f / Nat.gcd f p.2 * p.2) f
def lc (dm : List (Int × Nat)) : Nat := lcA 1 dm
def mt (dm : List (Int × Nat)) (n : Int) : Bool := dm.all fun p => decide ((n - p.1).fmod (p.2 : Int) = 0)
theorem lc_step {f b : Nat} (hf : 1 ≤ f) (hb : 1 ≤ b) (hb2 : b ≤ 24) : 1 ≤ f / Nat.gcd f b * b ∧ f / Nat.gcd f b * b ≤ f * 24 := by
  have hg : 0 < Nat.gcd f b := Nat.gcd_pos_of_pos_right _ (by omega)
  have hg1 : Nat.gcd f b ≤ f := Nat.gcd_le_left _ (by omega)
  exact ⟨Nat.mul_pos (Nat.div_pos hg1 hg) (by omega), Nat.mul_le_mul (Nat.div_le_self _ _) hb2⟩
theorem take_lc {dm : List (Int × Nat)} {j : Nat} {p : Int × Nat} (h : dm[j]? = some p) : lc (dm.take (j + 1)) = lc (dm.take j) / Nat.gcd (lc (dm.take j)) p.2 * p.2 := by
  have : dm.take (j + 1) = dm.take j ++ [p] := by rw [List.take_succ, h]; rfl
  rw [this]
  unfold lc lcA
  rw [List.foldl_append]; rfl
theorem lc_bd {dm : List (Int × Nat)} (h : ∀ p ∈ dm, okD p) (hl : dm.length ≤ 5) : ∀ j, j ≤ dm.length → 1 ≤ lc (dm.take j) ∧ lc (dm.take j) ≤ 24 ^ j
  | 0, _ => by rw [List.take_zero]; decide
  | j + 1, hj => by
    obtain ⟨h1, h2⟩ := lc_bd h hl j (by omega)
    have hp : dm[j]? = some dm[j] := List.getElem?_eq_getElem (by omega)
    rw [take_lc hp]
    obtain ⟨_, _, q3, q4⟩ := h _ (mem_of_at hp)
    obtain ⟨g1, g2⟩ := lc_step h1 q3 q4
    refine ⟨g1, Nat.le_trans g2 ?_⟩
    rw [Nat.pow_succ]
    exact Nat.mul_le_mul_right _ h2
theorem p24 {j : Nat} (h : j ≤ 5) : 24 ^ j < 2 ^ 24 := by
  have : 24 ^ j ≤ 24 ^ 5 := Nat.pow_le_pow_right (by omega) h
  have h5 : (24 : Nat) ^ 5 < 2 ^ 24 := by decide
  omega
theorem lc_lt {dm : List (Int × Nat)} (h : ∀ p ∈ dm, okD p) (hl : dm.length ≤ 5) : 1 ≤ lc dm ∧ lc dm < 2 ^ 24 := by
  obtain ⟨h1, h2⟩ := lc_bd h hl dm.length (Nat.le_refl _)
  rw [List.take_length] at h1 h2
  exact ⟨h1, Nat.lt_of_le_of_lt h2 (p24 hl)⟩
/-- the turn of both lcm loops -/
theorem lc_turn {C : Calls} {i sl sb : Nat} {ρ : En} {f b : Nat} {U : RS → Prop} (hc : ∀ m n : Nat, C.fn i [.int m, .int n] S = some (.ok (.int (Nat.gcd m n : Nat)) S)) (h1 : ρ[sl]? = some (some (.int f))) (h2 : ρ[sb]? = some (some (.int b))) (hf : 1 ≤ f) (hf2 : f < 2 ^ 24) (hb : 1 ≤ b) (hb2 : b ≤ 24)
    (h : U (.nx (ρ.set sl (some (.int (f / Nat.gcd f b * b : Nat)))) S)) : PZ (sAsg (gOne sl) (eOp oMul (eOp oFdiv (eSlot sl) (eCall C i 2 (aCons (eSlot sl) (aCons (eSlot sb) aNil)))) (eSlot sb))) ρ S U := by
  have hg : 0 < Nat.gcd f b := Nat.gcd_pos_of_pos_right _ (by omega)
  have hgl : Nat.gcd f b ≤ b := Nat.gcd_le_right _ (by omega)
  have hdv : divOk ((Nat.gcd f b : Nat) : Int) := divOk_nat hg (by omega)
  have m1 : mulOk ((f / Nat.gcd f b : Nat) : Int) (b : Int) := mulOk_r (by omega) (by omega)
  have eb : ((f / Nat.gcd f b : Nat) : Int) * (b : Int) = ((f / Nat.gcd f b * b : Nat) : Int) := rfl
  simp only [PM_ret, PM_bind, PM_guard, PM_slot', PM_eC, PM_eOp, PM_eUn, PM_eT, PM_tV, PM_eAnd, PM_eOr, PM_tAnd, PM_tOr, PM_tNot, PM_eIf, PM_tIf, PM_tCmp, PM_tChn, PM_last, PM_more, PM_aNil, PM_aCons, PM_eTup, PM_eLst, PM_eCall, PM_eNew, PM_eDrop, PM_add, PM_sub, PM_mul, PM_fdiv, PM_mod, PM_pow, PM_neg, PM_lt, PM_le, PM_gt, PM_ge, PM_eqi, PM_nei, own_int, own_bl, own_tup, own_str, PM_isNon, PM_isBl, PM_isnot, PM_tbl, PM_tint, PM_tnon, PM_ttup, PM_lenT, PM_lenF, PM_int, PM_abs, PM_tupT, PM_lstF, PM_ixT, PM_eM, PM_iSeq, PM_seqT, PM_seqF, PM_rng1, PM_rng2, PM_enum, PZ_bind, PZ_nx, PZ_bk, PZ_ct, PZ_rt, SQ_nx, SQ_rt, SQ_ct, SQ_bk, TQ_nx, TQ_ct, TQ_bk, TQ_rt, PZ_seq, PZ_ret, PZ_drop, PZ_if, PZ_asg, PZ_one, PZ_par, PZ_allN, PZ_allC, PZ_tup, PZ_sub, PZ_fld, PZ_for, List.getElem?_cons_zero, List.getElem?_cons_succ, Option.some.injEq, exists_eq_left', exists_eq_left, List.set_cons_zero, List.set_cons_succ, setAll, List.length_cons, List.length_nil, List.map_cons, List.map_nil, Nat.reduceAdd, Nat.reduceSub, List.replicate, List.cons_append, List.nil_append, true_and, and_true, Bool.not_true, Bool.not_false, if_true, if_false, Bool.false_eq_true, D.int.injEq, D.isNon, D.isBl, Nat.reduceLeDiff, dropR_len, Nat.le_refl, ite_true, ite_false, reduceCtorEq, PM_slot h1, PM_slot h2, PM_of (hc f b), fdiv_nat, hdv, m1, eb]
  exact h
theorem e_least {dm : List (Int × Nat)} (h : ∀ p ∈ dm, okD p) (hl : dm.length ≤ 5) : (CC (k + 2)).fn 19 [.tup (dm.map dD)] S = some (.ok (.int (lc dm)) S) := by
  refine fn_eq (PM_fn rfl rfl rfl ?_)
  unfold b_least_by
  simp only [PM_ret, PM_bind, PM_guard, PM_slot', PM_eC, PM_eOp, PM_eUn, PM_eT, PM_tV, PM_eAnd, PM_eOr, PM_tAnd, PM_tOr, PM_tNot, PM_eIf, PM_tIf, PM_tCmp, PM_tChn, PM_last, PM_more, PM_aNil, PM_aCons, PM_eTup, PM_eLst, PM_eCall, PM_eNew, PM_eDrop, PM_add, PM_sub, PM_mul, PM_fdiv, PM_mod, PM_pow, PM_neg, PM_lt, PM_le, PM_gt, PM_ge, PM_eqi, PM_nei, own_int, own_bl, own_tup, own_str, PM_isNon, PM_isBl, PM_isnot, PM_tbl, PM_tint, PM_tnon, PM_ttup, PM_lenT, PM_lenF, PM_int, PM_abs, PM_tupT, PM_lstF, PM_ixT, PM_eM, PM_iSeq, PM_seqT, PM_seqF, PM_rng1, PM_rng2, PM_enum, PZ_bind, PZ_nx, PZ_bk, PZ_ct, PZ_rt, SQ_nx, SQ_rt, SQ_ct, SQ_bk, TQ_nx, TQ_ct, TQ_bk, TQ_rt, PZ_seq, PZ_ret, PZ_drop, PZ_if, PZ_asg, PZ_one, PZ_par, PZ_allN, PZ_allC, PZ_tup, PZ_sub, PZ_fld, PZ_for, List.getElem?_cons_zero, List.getElem?_cons_succ, Option.some.injEq, exists_eq_left', exists_eq_left, List.set_cons_zero, List.set_cons_succ, setAll, List.length_cons, List.length_nil, List.map_cons, List.map_nil, Nat.reduceAdd, Nat.reduceSub, List.replicate, List.cons_append, List.nil_append, true_and, and_true, Bool.not_true, Bool.not_false, if_true, if_false, Bool.false_eq_true, D.int.injEq, D.isNon, D.isBl, Nat.reduceLeDiff, dropR_len, Nat.le_refl, ite_true, ite_false, reduceCtorEq]
  refine PZ_go (fun j ρ S' => S' = S ∧ j ≤ dm.length ∧ ∃ (a b : Option D), ρ = [some (.tup (dm.map dD)), some (.int (lc (dm.take j))), a, b]) ⟨rfl, by omega, _, _, rfl⟩ ?_ ?_
  · rintro j d ρ S' hj ⟨rfl, hj5, a, b, rfl⟩
    obtain ⟨p, hp, rfl⟩ := map_at hj
    have hlt := (List.getElem?_eq_some_iff.mp hp).1
    obtain ⟨_, _, q3, q4⟩ := h _ (mem_of_at hp)
    obtain ⟨g1, g2⟩ := lc_bd h hl j (by omega)
    refine ⟨trivial, _, rfl, ?_⟩
    refine lc_turn (fun m n => e_gcd (k := k) (S := S') m n) rfl rfl g1 (Nat.lt_of_le_of_lt g2 (p24 (by omega))) q3 q4 ?_
    refine ⟨rfl, by omega, some (.int p.1), some (.int p.2), ?_⟩
    rw [take_lc hp]
    rfl
  · rintro ρ S' ⟨rfl, _, a, b, rfl⟩
    refine ⟨trivial, ?_⟩
    rw [List.length_map, List.take_length]
    simp only [PM_ret, PM_bind, PM_guard, PM_slot', PM_eC, PM_eOp, PM_eUn, PM_eT, PM_tV, PM_eAnd, PM_eOr, PM_tAnd, PM_tOr, PM_tNot, PM_eIf, PM_tIf, PM_tCmp, PM_tChn, PM_last, PM_more, PM_aNil, PM_aCons, PM_eTup, PM_eLst, PM_eCall, PM_eNew, PM_eDrop, PM_add, PM_sub, PM_mul, PM_fdiv, PM_mod, PM_pow, PM_neg, PM_lt, PM_le, PM_gt, PM_ge, PM_eqi, PM_nei, own_int, own_bl, own_tup, own_str, PM_isNon, PM_isBl, PM_isnot, PM_tbl, PM_tint, PM_tnon, PM_ttup, PM_lenT, PM_lenF, PM_int, PM_abs, PM_tupT, PM_lstF, PM_ixT, PM_eM, PM_iSeq, PM_seqT, PM_seqF, PM_rng1, PM_rng2, PM_enum, PZ_bind, PZ_nx, PZ_bk, PZ_ct, PZ_rt, SQ_nx, SQ_rt, SQ_ct, SQ_bk, TQ_nx, TQ_ct, TQ_bk, TQ_rt, PZ_seq, PZ_ret, PZ_drop, PZ_if, PZ_asg, PZ_one, PZ_par, PZ_allN, PZ_allC, PZ_tup, PZ_sub, PZ_fld, PZ_for, List.getElem?_cons_zero, List.getElem?_cons_succ, Option.some.injEq, exists_eq_left', exists_eq_left, List.set_cons_zero, List.set_cons_succ, setAll, List.length_cons, List.length_nil, List.map_cons, List.map_nil, Nat.reduceAdd, Nat.reduceSub, List.replicate, List.cons_append, List.nil_append, true_and, and_true, Bool.not_true, Bool.not_false, if_true, if_false, Bool.false_eq_true, D.int.injEq, D.isNon, D.isBl, Nat.reduceLeDiff, dropR_len, Nat.le_refl, ite_true, ite_false, reduceCtorEq]
def mtg (n : Int) : D → Option D
  | .tup [.int v, .int b] => some (.bl (decide ((n - v).fmod b = 0)))
  | _ => none
theorem mt_bls {n : Int} : ∀ {dm : List (Int × Nat)}, asBls ((dm.map dD).filterMap (mtg n)) = some (dm.map fun p => decide ((n - p.1).fmod (p.2 : Int) = 0))
  | [] => rfl
  | p :: dm => by
    have ih := mt_bls (n := n) (dm := dm)
    have e : mtg n (dD p) = some (.bl (decide ((n - p.1).fmod (p.2 : Int) = 0))) := rfl
    rw [List.map_cons, List.filterMap_cons, e]
    simp only
    unfold asBls
    rw [ih]; rfl
theorem mt_all {n : Int} {dm : List (Int × Nat)} : (dm.map fun p => decide ((n - p.1).fmod (p.2 : Int) = 0)).all id = mt dm n := by
  unfold mt; rw [List.all_map]; rfl
theorem tt_true : ∀ ρ S', PM (tTrue ρ) S' = fun (Q : Bool → Store → Prop) => Q true S' := fun ρ S' => by
  funext Q
  exact propext PM_ret
theorem e_meets {dm : List (Int × Nat)} {n : Int} (h : ∀ p ∈ dm, okD p) (hl : dm.length ≤ 5) : (CC (k + 1)).fn 18 [.tup (dm.map dD), .int n] S = some (.ok (.bl (mt dm n)) S) := by
  refine fn_eq (PM_fn rfl rfl rfl ?_)
  unfold b_meets_by
  simp only [PM_ret, PM_bind, PM_guard, PM_slot', PM_eC, PM_eOp, PM_eUn, PM_eT, PM_tV, PM_eAnd, PM_eOr, PM_tAnd, PM_tOr, PM_tNot, PM_eIf, PM_tIf, PM_tCmp, PM_tChn, PM_last, PM_more, PM_aNil, PM_aCons, PM_eTup, PM_eLst, PM_eCall, PM_eNew, PM_eDrop, PM_add, PM_sub, PM_mul, PM_fdiv, PM_mod, PM_pow, PM_neg, PM_lt, PM_le, PM_gt, PM_ge, PM_eqi, PM_nei, own_int, own_bl, own_tup, own_str, PM_isNon, PM_isBl, PM_isnot, PM_tbl, PM_tint, PM_tnon, PM_ttup, PM_lenT, PM_lenF, PM_int, PM_abs, PM_tupT, PM_lstF, PM_ixT, PM_eM, PM_iSeq, PM_seqT, PM_seqF, PM_rng1, PM_rng2, PM_enum, PZ_bind, PZ_nx, PZ_bk, PZ_ct, PZ_rt, SQ_nx, SQ_rt, SQ_ct, SQ_bk, TQ_nx, TQ_ct, TQ_bk, TQ_rt, PZ_seq, PZ_ret, PZ_drop, PZ_if, PZ_asg, PZ_one, PZ_par, PZ_allN, PZ_allC, PZ_tup, PZ_sub, PZ_fld, PZ_for, List.getElem?_cons_zero, List.getElem?_cons_succ, Option.some.injEq, exists_eq_left', exists_eq_left, List.set_cons_zero, List.set_cons_succ, setAll, List.length_cons, List.length_nil, List.map_cons, List.map_nil, Nat.reduceAdd, Nat.reduceSub, List.replicate, List.cons_append, List.nil_append, true_and, and_true, Bool.not_true, Bool.not_false, if_true, if_false, Bool.false_eq_true, D.int.injEq, D.isNon, D.isBl, Nat.reduceLeDiff, dropR_len, Nat.le_refl, ite_true, ite_false, reduceCtorEq]
  refine PM_comp ?_
  simp only [PM_ret, PM_bind, PM_guard, PM_slot', PM_eC, PM_eOp, PM_eUn, PM_eT, PM_tV, PM_eAnd, PM_eOr, PM_tAnd, PM_tOr, PM_tNot, PM_eIf, PM_tIf, PM_tCmp, PM_tChn, PM_last, PM_more, PM_aNil, PM_aCons, PM_eTup, PM_eLst, PM_eCall, PM_eNew, PM_eDrop, PM_add, PM_sub, PM_mul, PM_fdiv, PM_mod, PM_pow, PM_neg, PM_lt, PM_le, PM_gt, PM_ge, PM_eqi, PM_nei, own_int, own_bl, own_tup, own_str, PM_isNon, PM_isBl, PM_isnot, PM_tbl, PM_tint, PM_tnon, PM_ttup, PM_lenT, PM_lenF, PM_int, PM_abs, PM_tupT, PM_lstF, PM_ixT, PM_eM, PM_iSeq, PM_seqT, PM_seqF, PM_rng1, PM_rng2, PM_enum, PZ_bind, PZ_nx, PZ_bk, PZ_ct, PZ_rt, SQ_nx, SQ_rt, SQ_ct, SQ_bk, TQ_nx, TQ_ct, TQ_bk, TQ_rt, PZ_seq, PZ_ret, PZ_drop, PZ_if, PZ_asg, PZ_one, PZ_par, PZ_allN, PZ_allC, PZ_tup, PZ_sub, PZ_fld, PZ_for, List.getElem?_cons_zero, List.getElem?_cons_succ, Option.some.injEq, exists_eq_left', exists_eq_left, List.set_cons_zero, List.set_cons_succ, setAll, List.length_cons, List.length_nil, List.map_cons, List.map_nil, Nat.reduceAdd, Nat.reduceSub, List.replicate, List.cons_append, List.nil_append, true_and, and_true, Bool.not_true, Bool.not_false, if_true, if_false, Bool.false_eq_true, D.int.injEq, D.isNon, D.isBl, Nat.reduceLeDiff, dropR_len, Nat.le_refl, ite_true, ite_false, reduceCtorEq]
  refine ⟨by rw [List.length_map]; have := sizeLine_big; omega, mtg n, fun _ => trivial, fun d hd => ?_, ?_⟩
  · obtain ⟨p, hp, rfl⟩ := List.mem_map.mp hd
    refine ⟨_, rfl, fun acc => ?_⟩
    have hb : (p.2 : Int) ≠ 0 := by have := (h p hp).2.2.1; omega
    have e : mtg n (dD p) = some (.bl (decide ((n - p.1).fmod (p.2 : Int) = 0))) := rfl
    simp only [PM_ret, PM_bind, PM_guard, PM_slot', PM_eC, PM_eOp, PM_eUn, PM_eT, PM_tV, PM_eAnd, PM_eOr, PM_tAnd, PM_tOr, PM_tNot, PM_eIf, PM_tIf, PM_tCmp, PM_tChn, PM_last, PM_more, PM_aNil, PM_aCons, PM_eTup, PM_eLst, PM_eCall, PM_eNew, PM_eDrop, PM_add, PM_sub, PM_mul, PM_fdiv, PM_mod, PM_pow, PM_neg, PM_lt, PM_le, PM_gt, PM_ge, PM_eqi, PM_nei, own_int, own_bl, own_tup, own_str, PM_isNon, PM_isBl, PM_isnot, PM_tbl, PM_tint, PM_tnon, PM_ttup, PM_lenT, PM_lenF, PM_int, PM_abs, PM_tupT, PM_lstF, PM_ixT, PM_eM, PM_iSeq, PM_seqT, PM_seqF, PM_rng1, PM_rng2, PM_enum, PZ_bind, PZ_nx, PZ_bk, PZ_ct, PZ_rt, SQ_nx, SQ_rt, SQ_ct, SQ_bk, TQ_nx, TQ_ct, TQ_bk, TQ_rt, PZ_seq, PZ_ret, PZ_drop, PZ_if, PZ_asg, PZ_one, PZ_par, PZ_allN, PZ_allC, PZ_tup, PZ_sub, PZ_fld, PZ_for, List.getElem?_cons_zero, List.getElem?_cons_succ, Option.some.injEq, exists_eq_left', exists_eq_left, List.set_cons_zero, List.set_cons_succ, setAll, List.length_cons, List.length_nil, List.map_cons, List.map_nil, Nat.reduceAdd, Nat.reduceSub, List.replicate, List.cons_append, List.nil_append, true_and, and_true, Bool.not_true, Bool.not_false, if_true, if_false, Bool.false_eq_true, D.int.injEq, D.isNon, D.isBl, Nat.reduceLeDiff, dropR_len, Nat.le_refl, ite_true, ite_false, reduceCtorEq, tt_true, List.foldr_cons, List.foldr_nil, e]
    exact hb
  · simp only [PM_ret, PM_bind, PM_guard, PM_slot', PM_eC, PM_eOp, PM_eUn, PM_eT, PM_tV, PM_eAnd, PM_eOr, PM_tAnd, PM_tOr, PM_tNot, PM_eIf, PM_tIf, PM_tCmp, PM_tChn, PM_last, PM_more, PM_aNil, PM_aCons, PM_eTup, PM_eLst, PM_eCall, PM_eNew, PM_eDrop, PM_add, PM_sub, PM_mul, PM_fdiv, PM_mod, PM_pow, PM_neg, PM_lt, PM_le, PM_gt, PM_ge, PM_eqi, PM_nei, own_int, own_bl, own_tup, own_str, PM_isNon, PM_isBl, PM_isnot, PM_tbl, PM_tint, PM_tnon, PM_ttup, PM_lenT, PM_lenF, PM_int, PM_abs, PM_tupT, PM_lstF, PM_ixT, PM_eM, PM_iSeq, PM_seqT, PM_seqF, PM_rng1, PM_rng2, PM_enum, PZ_bind, PZ_nx, PZ_bk, PZ_ct, PZ_rt, SQ_nx, SQ_rt, SQ_ct, SQ_bk, TQ_nx, TQ_ct, TQ_bk, TQ_rt, PZ_seq, PZ_ret, PZ_drop, PZ_if, PZ_asg, PZ_one, PZ_par, PZ_allN, PZ_allC, PZ_tup, PZ_sub, PZ_fld, PZ_for, List.getElem?_cons_zero, List.getElem?_cons_succ, Option.some.injEq, exists_eq_left', exists_eq_left, List.set_cons_zero, List.set_cons_succ, setAll, List.length_cons, List.length_nil, List.map_cons, List.map_nil, Nat.reduceAdd, Nat.reduceSub, List.replicate, List.cons_append, List.nil_append, true_and, and_true, Bool.not_true, Bool.not_false, if_true, if_false, Bool.false_eq_true, D.int.injEq, D.isNon, D.isBl, Nat.reduceLeDiff, dropR_len, Nat.le_refl, ite_true, ite_false, reduceCtorEq, PM_all get_last mt_bls, mt_all, drop_bl]
/-- what may be asked of -/
inductive AskD : D → Prop where
  | non : AskD .non
  | int (i : Int) : AskD (.int i)
  | ob (c : Nat) (a b : D) : c < 2 → simpD a → simpD b → AskD (.obj c [a, b])
def fh (dm : List (Int × Nat)) : D → Bool
  | .obj 0 [.int n, .int b] => decide (b = (lc dm : Int)) && (decide (0 ≤ n) && (decide (n < b) && mt dm n))
  | _ => false
theorem fl0 {a b : D} : ((Γ.fields 0).zip [a, b]).lookup ("number" : Str) = some a := rfl
theorem fl1 {a b : D} : ((Γ.fields 0).zip [a, b]).lookup ("by" : Str) = some b := rfl
theorem fl2 {a b : D} : ((Γ.fields 1).zip [a, b]).lookup ("one" : Str) = some a := rfl
theorem fl3 {a b : D} : ((Γ.fields 1).zip [a, b]).lookup ("other" : Str) = some b := rfl
theorem c0 : 0 < Γ.cls.length := by decide
theorem c1 : 1 < Γ.cls.length := by decide
theorem isi_n {i : Nat} (hi : i < Γ.cls.length) : PM (fIsi Γ .non (.cls i)) S Q ↔ Q (.bl false) S := PM_isiC (T := "NoneType") rfl (by decide) hi
theorem isi_i {i : Nat} {z : Int} (hi : i < Γ.cls.length) : PM (fIsi Γ (.int z) (.cls i)) S Q ↔ Q (.bl false) S := PM_isiC (T := "int") rfl (by decide) hi
theorem oo {i j : Nat} : (i == j) = decide (i = j) := rfl
theorem w_or {a b : D} (ha : simpD a) (hb : simpD b) : (isW a = true ∧ isW b = true → ∃ i j, a = .int i ∧ b = .int j) := by
  rintro ⟨h1, h2⟩
  cases a <;> first | cases h1 | skip
  cases b <;> first | cases h2 | skip
  exact ⟨_, _, rfl, rfl⟩
theorem e_fh {dm : List (Int × Nat)} {v : D} (h : ∀ p ∈ dm, okD p) (hl : dm.length ≤ 5) (hv : AskD v) : (CC (k + 4)).fn 20 [.tup (dm.map dD), v] S = some (.ok (.bl (fh dm v)) S) := by
  refine fn_eq (PM_fn rfl rfl rfl ?_)
  unfold b_found_holds
  have en := e_need (k := k) (S := S) h (by omega)
  have el := e_least (k := k + 1) (S := S) h hl
  simp only [PM_ret, PM_bind, PM_guard, PM_slot', PM_eC, PM_eOp, PM_eUn, PM_eT, PM_tV, PM_eAnd, PM_eOr, PM_tAnd, PM_tOr, PM_tNot, PM_eIf, PM_tIf, PM_tCmp, PM_tChn, PM_last, PM_more, PM_aNil, PM_aCons, PM_eTup, PM_eLst, PM_eCall, PM_eNew, PM_eDrop, PM_add, PM_sub, PM_mul, PM_fdiv, PM_mod, PM_pow, PM_neg, PM_lt, PM_le, PM_gt, PM_ge, PM_eqi, PM_nei, own_int, own_bl, own_tup, own_str, PM_isNon, PM_isBl, PM_isnot, PM_tbl, PM_tint, PM_tnon, PM_ttup, PM_lenT, PM_lenF, PM_int, PM_abs, PM_tupT, PM_lstF, PM_ixT, PM_eM, PM_iSeq, PM_seqT, PM_seqF, PM_rng1, PM_rng2, PM_enum, PZ_bind, PZ_nx, PZ_bk, PZ_ct, PZ_rt, SQ_nx, SQ_rt, SQ_ct, SQ_bk, TQ_nx, TQ_ct, TQ_bk, TQ_rt, PZ_seq, PZ_ret, PZ_drop, PZ_if, PZ_asg, PZ_one, PZ_par, PZ_allN, PZ_allC, PZ_tup, PZ_sub, PZ_fld, PZ_for, List.getElem?_cons_zero, List.getElem?_cons_succ, Option.some.injEq, exists_eq_left', exists_eq_left, List.set_cons_zero, List.set_cons_succ, setAll, List.length_cons, List.length_nil, List.map_cons, List.map_nil, Nat.reduceAdd, Nat.reduceSub, List.replicate, List.cons_append, List.nil_append, true_and, and_true, Bool.not_true, Bool.not_false, if_true, if_false, Bool.false_eq_true, D.int.injEq, D.isNon, D.isBl, Nat.reduceLeDiff, dropR_len, Nat.le_refl, ite_true, ite_false, reduceCtorEq, PM_of en]
  cases hv with
  | non => simp only [PM_ret, PM_bind, PM_guard, PM_slot', PM_eC, PM_eOp, PM_eUn, PM_eT, PM_tV, PM_eAnd, PM_eOr, PM_tAnd, PM_tOr, PM_tNot, PM_eIf, PM_tIf, PM_tCmp, PM_tChn, PM_last, PM_more, PM_aNil, PM_aCons, PM_eTup, PM_eLst, PM_eCall, PM_eNew, PM_eDrop, PM_add, PM_sub, PM_mul, PM_fdiv, PM_mod, PM_pow, PM_neg, PM_lt, PM_le, PM_gt, PM_ge, PM_eqi, PM_nei, own_int, own_bl, own_tup, own_str, PM_isNon, PM_isBl, PM_isnot, PM_tbl, PM_tint, PM_tnon, PM_ttup, PM_lenT, PM_lenF, PM_int, PM_abs, PM_tupT, PM_lstF, PM_ixT, PM_eM, PM_iSeq, PM_seqT, PM_seqF, PM_rng1, PM_rng2, PM_enum, PZ_bind, PZ_nx, PZ_bk, PZ_ct, PZ_rt, SQ_nx, SQ_rt, SQ_ct, SQ_bk, TQ_nx, TQ_ct, TQ_bk, TQ_rt, PZ_seq, PZ_ret, PZ_drop, PZ_if, PZ_asg, PZ_one, PZ_par, PZ_allN, PZ_allC, PZ_tup, PZ_sub, PZ_fld, PZ_for, List.getElem?_cons_zero, List.getElem?_cons_succ, Option.some.injEq, exists_eq_left', exists_eq_left, List.set_cons_zero, List.set_cons_succ, setAll, List.length_cons, List.length_nil, List.map_cons, List.map_nil, Nat.reduceAdd, Nat.reduceSub, List.replicate, List.cons_append, List.nil_append, true_and, and_true, Bool.not_true, Bool.not_false, if_true, if_false, Bool.false_eq_true, D.int.injEq, D.isNon, D.isBl, Nat.reduceLeDiff, dropR_len, Nat.le_refl, ite_true, ite_false, reduceCtorEq, isi_n c0]; rfl
  | int i => simp only [PM_ret, PM_bind, PM_guard, PM_slot', PM_eC, PM_eOp, PM_eUn, PM_eT, PM_tV, PM_eAnd, PM_eOr, PM_tAnd, PM_tOr, PM_tNot, PM_eIf, PM_tIf, PM_tCmp, PM_tChn, PM_last, PM_more, PM_aNil, PM_aCons, PM_eTup, PM_eLst, PM_eCall, PM_eNew, PM_eDrop, PM_add, PM_sub, PM_mul, PM_fdiv, PM_mod, PM_pow, PM_neg, PM_lt, PM_le, PM_gt, PM_ge, PM_eqi, PM_nei, own_int, own_bl, own_tup, own_str, PM_isNon, PM_isBl, PM_isnot, PM_tbl, PM_tint, PM_tnon, PM_ttup, PM_lenT, PM_lenF, PM_int, PM_abs, PM_tupT, PM_lstF, PM_ixT, PM_eM, PM_iSeq, PM_seqT, PM_seqF, PM_rng1, PM_rng2, PM_enum, PZ_bind, PZ_nx, PZ_bk, PZ_ct, PZ_rt, SQ_nx, SQ_rt, SQ_ct, SQ_bk, TQ_nx, TQ_ct, TQ_bk, TQ_rt, PZ_seq, PZ_ret, PZ_drop, PZ_if, PZ_asg, PZ_one, PZ_par, PZ_allN, PZ_allC, PZ_tup, PZ_sub, PZ_fld, PZ_for, List.getElem?_cons_zero, List.getElem?_cons_succ, Option.some.injEq, exists_eq_left', exists_eq_left, List.set_cons_zero, List.set_cons_succ, setAll, List.length_cons, List.length_nil, List.map_cons, List.map_nil, Nat.reduceAdd, Nat.reduceSub, List.replicate, List.cons_append, List.nil_append, true_and, and_true, Bool.not_true, Bool.not_false, if_true, if_false, Bool.false_eq_true, D.int.injEq, D.isNon, D.isBl, Nat.reduceLeDiff, dropR_len, Nat.le_refl, ite_true, ite_false, reduceCtorEq, isi_i c0]; rfl
  | ob c a b hc ha hb =>
    have hw1 := e_whole (k := k + 2) (S := S) ha
    have hw2 := e_whole (k := k + 2) (S := S) hb
    match c, hc with
    | 1, _ =>
      have e10 : ((1 : Nat) == 0) = false := rfl
      simp only [PM_ret, PM_bind, PM_guard, PM_slot', PM_eC, PM_eOp, PM_eUn, PM_eT, PM_tV, PM_eAnd, PM_eOr, PM_tAnd, PM_tOr, PM_tNot, PM_eIf, PM_tIf, PM_tCmp, PM_tChn, PM_last, PM_more, PM_aNil, PM_aCons, PM_eTup, PM_eLst, PM_eCall, PM_eNew, PM_eDrop, PM_add, PM_sub, PM_mul, PM_fdiv, PM_mod, PM_pow, PM_neg, PM_lt, PM_le, PM_gt, PM_ge, PM_eqi, PM_nei, own_int, own_bl, own_tup, own_str, PM_isNon, PM_isBl, PM_isnot, PM_tbl, PM_tint, PM_tnon, PM_ttup, PM_lenT, PM_lenF, PM_int, PM_abs, PM_tupT, PM_lstF, PM_ixT, PM_eM, PM_iSeq, PM_seqT, PM_seqF, PM_rng1, PM_rng2, PM_enum, PZ_bind, PZ_nx, PZ_bk, PZ_ct, PZ_rt, SQ_nx, SQ_rt, SQ_ct, SQ_bk, TQ_nx, TQ_ct, TQ_bk, TQ_rt, PZ_seq, PZ_ret, PZ_drop, PZ_if, PZ_asg, PZ_one, PZ_par, PZ_allN, PZ_allC, PZ_tup, PZ_sub, PZ_fld, PZ_for, List.getElem?_cons_zero, List.getElem?_cons_succ, Option.some.injEq, exists_eq_left', exists_eq_left, List.set_cons_zero, List.set_cons_succ, setAll, List.length_cons, List.length_nil, List.map_cons, List.map_nil, Nat.reduceAdd, Nat.reduceSub, List.replicate, List.cons_append, List.nil_append, true_and, and_true, Bool.not_true, Bool.not_false, if_true, if_false, Bool.false_eq_true, D.int.injEq, D.isNon, D.isBl, Nat.reduceLeDiff, dropR_len, Nat.le_refl, ite_true, ite_false, reduceCtorEq, PM_isiO (Γ := Γ) (i := 1) (j := 0) c1 c0, e10]; rfl
    | 0, _ =>
      have e00 : ((0 : Nat) == 0) = true := rfl
      simp only [PM_ret, PM_bind, PM_guard, PM_slot', PM_eC, PM_eOp, PM_eUn, PM_eT, PM_tV, PM_eAnd, PM_eOr, PM_tAnd, PM_tOr, PM_tNot, PM_eIf, PM_tIf, PM_tCmp, PM_tChn, PM_last, PM_more, PM_aNil, PM_aCons, PM_eTup, PM_eLst, PM_eCall, PM_eNew, PM_eDrop, PM_add, PM_sub, PM_mul, PM_fdiv, PM_mod, PM_pow, PM_neg, PM_lt, PM_le, PM_gt, PM_ge, PM_eqi, PM_nei, own_int, own_bl, own_tup, own_str, PM_isNon, PM_isBl, PM_isnot, PM_tbl, PM_tint, PM_tnon, PM_ttup, PM_lenT, PM_lenF, PM_int, PM_abs, PM_tupT, PM_lstF, PM_ixT, PM_eM, PM_iSeq, PM_seqT, PM_seqF, PM_rng1, PM_rng2, PM_enum, PZ_bind, PZ_nx, PZ_bk, PZ_ct, PZ_rt, SQ_nx, SQ_rt, SQ_ct, SQ_bk, TQ_nx, TQ_ct, TQ_bk, TQ_rt, PZ_seq, PZ_ret, PZ_drop, PZ_if, PZ_asg, PZ_one, PZ_par, PZ_allN, PZ_allC, PZ_tup, PZ_sub, PZ_fld, PZ_for, List.getElem?_cons_zero, List.getElem?_cons_succ, Option.some.injEq, exists_eq_left', exists_eq_left, List.set_cons_zero, List.set_cons_succ, setAll, List.length_cons, List.length_nil, List.map_cons, List.map_nil, Nat.reduceAdd, Nat.reduceSub, List.replicate, List.cons_append, List.nil_append, true_and, and_true, Bool.not_true, Bool.not_false, if_true, if_false, Bool.false_eq_true, D.int.injEq, D.isNon, D.isBl, Nat.reduceLeDiff, dropR_len, Nat.le_refl, ite_true, ite_false, reduceCtorEq, PM_isiO (Γ := Γ) (i := 0) (j := 0) c0 c0, e00, PM_fldO fl0, PM_fldO fl1, PM_of hw1, PM_of hw2]
      by_cases hab : isW a = true ∧ isW b = true
      · obtain ⟨n, b, rfl, rfl⟩ := w_or ha hb hab
        have i1 : isW (.int n) = true := rfl
        have i2 : isW (.int b) = true := rfl
        have em := e_meets (k := k + 2) (S := S) (n := n) h hl
        simp only [PM_ret, PM_bind, PM_guard, PM_slot', PM_eC, PM_eOp, PM_eUn, PM_eT, PM_tV, PM_eAnd, PM_eOr, PM_tAnd, PM_tOr, PM_tNot, PM_eIf, PM_tIf, PM_tCmp, PM_tChn, PM_last, PM_more, PM_aNil, PM_aCons, PM_eTup, PM_eLst, PM_eCall, PM_eNew, PM_eDrop, PM_add, PM_sub, PM_mul, PM_fdiv, PM_mod, PM_pow, PM_neg, PM_lt, PM_le, PM_gt, PM_ge, PM_eqi, PM_nei, own_int, own_bl, own_tup, own_str, PM_isNon, PM_isBl, PM_isnot, PM_tbl, PM_tint, PM_tnon, PM_ttup, PM_lenT, PM_lenF, PM_int, PM_abs, PM_tupT, PM_lstF, PM_ixT, PM_eM, PM_iSeq, PM_seqT, PM_seqF, PM_rng1, PM_rng2, PM_enum, PZ_bind, PZ_nx, PZ_bk, PZ_ct, PZ_rt, SQ_nx, SQ_rt, SQ_ct, SQ_bk, TQ_nx, TQ_ct, TQ_bk, TQ_rt, PZ_seq, PZ_ret, PZ_drop, PZ_if, PZ_asg, PZ_one, PZ_par, PZ_allN, PZ_allC, PZ_tup, PZ_sub, PZ_fld, PZ_for, List.getElem?_cons_zero, List.getElem?_cons_succ, Option.some.injEq, exists_eq_left', exists_eq_left, List.set_cons_zero, List.set_cons_succ, setAll, List.length_cons, List.length_nil, List.map_cons, List.map_nil, Nat.reduceAdd, Nat.reduceSub, List.replicate, List.cons_append, List.nil_append, true_and, and_true, Bool.not_true, Bool.not_false, if_true, if_false, Bool.false_eq_true, D.int.injEq, D.isNon, D.isBl, Nat.reduceLeDiff, dropR_len, Nat.le_refl, ite_true, ite_false, reduceCtorEq, i1, i2, PM_fldO fl0, PM_fldO fl1, PM_of el, PM_of em]
        unfold fh
        by_cases q1 : b = (lc dm : Int)
        · by_cases q2 : 0 ≤ n
          · by_cases q3 : n < b
            · simp only [PM_ret, PM_bind, PM_guard, PM_slot', PM_eC, PM_eOp, PM_eUn, PM_eT, PM_tV, PM_eAnd, PM_eOr, PM_tAnd, PM_tOr, PM_tNot, PM_eIf, PM_tIf, PM_tCmp, PM_tChn, PM_last, PM_more, PM_aNil, PM_aCons, PM_eTup, PM_eLst, PM_eCall, PM_eNew, PM_eDrop, PM_add, PM_sub, PM_mul, PM_fdiv, PM_mod, PM_pow, PM_neg, PM_lt, PM_le, PM_gt, PM_ge, PM_eqi, PM_nei, own_int, own_bl, own_tup, own_str, PM_isNon, PM_isBl, PM_isnot, PM_tbl, PM_tint, PM_tnon, PM_ttup, PM_lenT, PM_lenF, PM_int, PM_abs, PM_tupT, PM_lstF, PM_ixT, PM_eM, PM_iSeq, PM_seqT, PM_seqF, PM_rng1, PM_rng2, PM_enum, PZ_bind, PZ_nx, PZ_bk, PZ_ct, PZ_rt, SQ_nx, SQ_rt, SQ_ct, SQ_bk, TQ_nx, TQ_ct, TQ_bk, TQ_rt, PZ_seq, PZ_ret, PZ_drop, PZ_if, PZ_asg, PZ_one, PZ_par, PZ_allN, PZ_allC, PZ_tup, PZ_sub, PZ_fld, PZ_for, List.getElem?_cons_zero, List.getElem?_cons_succ, Option.some.injEq, exists_eq_left', exists_eq_left, List.set_cons_zero, List.set_cons_succ, setAll, List.length_cons, List.length_nil, List.map_cons, List.map_nil, Nat.reduceAdd, Nat.reduceSub, List.replicate, List.cons_append, List.nil_append, true_and, and_true, Bool.not_true, Bool.not_false, if_true, if_false, Bool.false_eq_true, D.int.injEq, D.isNon, D.isBl, Nat.reduceLeDiff, dropR_len, Nat.le_refl, ite_true, ite_false, reduceCtorEq, decide_eq_true q1, decide_eq_true q2, decide_eq_true q3, PM_of em, Bool.true_and]
            · simp only [PM_ret, PM_bind, PM_guard, PM_slot', PM_eC, PM_eOp, PM_eUn, PM_eT, PM_tV, PM_eAnd, PM_eOr, PM_tAnd, PM_tOr, PM_tNot, PM_eIf, PM_tIf, PM_tCmp, PM_tChn, PM_last, PM_more, PM_aNil, PM_aCons, PM_eTup, PM_eLst, PM_eCall, PM_eNew, PM_eDrop, PM_add, PM_sub, PM_mul, PM_fdiv, PM_mod, PM_pow, PM_neg, PM_lt, PM_le, PM_gt, PM_ge, PM_eqi, PM_nei, own_int, own_bl, own_tup, own_str, PM_isNon, PM_isBl, PM_isnot, PM_tbl, PM_tint, PM_tnon, PM_ttup, PM_lenT, PM_lenF, PM_int, PM_abs, PM_tupT, PM_lstF, PM_ixT, PM_eM, PM_iSeq, PM_seqT, PM_seqF, PM_rng1, PM_rng2, PM_enum, PZ_bind, PZ_nx, PZ_bk, PZ_ct, PZ_rt, SQ_nx, SQ_rt, SQ_ct, SQ_bk, TQ_nx, TQ_ct, TQ_bk, TQ_rt, PZ_seq, PZ_ret, PZ_drop, PZ_if, PZ_asg, PZ_one, PZ_par, PZ_allN, PZ_allC, PZ_tup, PZ_sub, PZ_fld, PZ_for, List.getElem?_cons_zero, List.getElem?_cons_succ, Option.some.injEq, exists_eq_left', exists_eq_left, List.set_cons_zero, List.set_cons_succ, setAll, List.length_cons, List.length_nil, List.map_cons, List.map_nil, Nat.reduceAdd, Nat.reduceSub, List.replicate, List.cons_append, List.nil_append, true_and, and_true, Bool.not_true, Bool.not_false, if_true, if_false, Bool.false_eq_true, D.int.injEq, D.isNon, D.isBl, Nat.reduceLeDiff, dropR_len, Nat.le_refl, ite_true, ite_false, reduceCtorEq, decide_eq_true q1, decide_eq_true q2, decide_eq_false q3, Bool.true_and, Bool.false_and]
          · simp only [PM_ret, PM_bind, PM_guard, PM_slot', PM_eC, PM_eOp, PM_eUn, PM_eT, PM_tV, PM_eAnd, PM_eOr, PM_tAnd, PM_tOr, PM_tNot, PM_eIf, PM_tIf, PM_tCmp, PM_tChn, PM_last, PM_more, PM_aNil, PM_aCons, PM_eTup, PM_eLst, PM_eCall, PM_eNew, PM_eDrop, PM_add, PM_sub, PM_mul, PM_fdiv, PM_mod, PM_pow, PM_neg, PM_lt, PM_le, PM_gt, PM_ge, PM_eqi, PM_nei, own_int, own_bl, own_tup, own_str, PM_isNon, PM_isBl, PM_isnot, PM_tbl, PM_tint, PM_tnon, PM_ttup, PM_lenT, PM_lenF, PM_int, PM_abs, PM_tupT, PM_lstF, PM_ixT, PM_eM, PM_iSeq, PM_seqT, PM_seqF, PM_rng1, PM_rng2, PM_enum, PZ_bind, PZ_nx, PZ_bk, PZ_ct, PZ_rt, SQ_nx, SQ_rt, SQ_ct, SQ_bk, TQ_nx, TQ_ct, TQ_bk, TQ_rt, PZ_seq, PZ_ret, PZ_drop, PZ_if, PZ_asg, PZ_one, PZ_par, PZ_allN, PZ_allC, PZ_tup, PZ_sub, PZ_fld, PZ_for, List.getElem?_cons_zero, List.getElem?_cons_succ, Option.some.injEq, exists_eq_left', exists_eq_left, List.set_cons_zero, List.set_cons_succ, setAll, List.length_cons, List.length_nil, List.map_cons, List.map_nil, Nat.reduceAdd, Nat.reduceSub, List.replicate, List.cons_append, List.nil_append, true_and, and_true, Bool.not_true, Bool.not_false, if_true, if_false, Bool.false_eq_true, D.int.injEq, D.isNon, D.isBl, Nat.reduceLeDiff, dropR_len, Nat.le_refl, ite_true, ite_false, reduceCtorEq, decide_eq_true q1, decide_eq_false q2, Bool.true_and, Bool.false_and]
        · simp only [PM_ret, PM_bind, PM_guard, PM_slot', PM_eC, PM_eOp, PM_eUn, PM_eT, PM_tV, PM_eAnd, PM_eOr, PM_tAnd, PM_tOr, PM_tNot, PM_eIf, PM_tIf, PM_tCmp, PM_tChn, PM_last, PM_more, PM_aNil, PM_aCons, PM_eTup, PM_eLst, PM_eCall, PM_eNew, PM_eDrop, PM_add, PM_sub, PM_mul, PM_fdiv, PM_mod, PM_pow, PM_neg, PM_lt, PM_le, PM_gt, PM_ge, PM_eqi, PM_nei, own_int, own_bl, own_tup, own_str, PM_isNon, PM_isBl, PM_isnot, PM_tbl, PM_tint, PM_tnon, PM_ttup, PM_lenT, PM_lenF, PM_int, PM_abs, PM_tupT, PM_lstF, PM_ixT, PM_eM, PM_iSeq, PM_seqT, PM_seqF, PM_rng1, PM_rng2, PM_enum, PZ_bind, PZ_nx, PZ_bk, PZ_ct, PZ_rt, SQ_nx, SQ_rt, SQ_ct, SQ_bk, TQ_nx, TQ_ct, TQ_bk, TQ_rt, PZ_seq, PZ_ret, PZ_drop, PZ_if, PZ_asg, PZ_one, PZ_par, PZ_allN, PZ_allC, PZ_tup, PZ_sub, PZ_fld, PZ_for, List.getElem?_cons_zero, List.getElem?_cons_succ, Option.some.injEq, exists_eq_left', exists_eq_left, List.set_cons_zero, List.set_cons_succ, setAll, List.length_cons, List.length_nil, List.map_cons, List.map_nil, Nat.reduceAdd, Nat.reduceSub, List.replicate, List.cons_append, List.nil_append, true_and, and_true, Bool.not_true, Bool.not_false, if_true, if_false, Bool.false_eq_true, D.int.injEq, D.isNon, D.isBl, Nat.reduceLeDiff, dropR_len, Nat.le_refl, ite_true, ite_false, reduceCtorEq, decide_eq_false q1, Bool.false_and]
      · have hf : fh dm (.obj 0 [a, b]) = false := by
          cases a <;> cases b <;> first
            | rfl
            | exact (hab ⟨rfl, rfl⟩).elim
        cases h1 : isW a with
        | false => simp only [PM_ret, PM_bind, PM_guard, PM_slot', PM_eC, PM_eOp, PM_eUn, PM_eT, PM_tV, PM_eAnd, PM_eOr, PM_tAnd, PM_tOr, PM_tNot, PM_eIf, PM_tIf, PM_tCmp, PM_tChn, PM_last, PM_more, PM_aNil, PM_aCons, PM_eTup, PM_eLst, PM_eCall, PM_eNew, PM_eDrop, PM_add, PM_sub, PM_mul, PM_fdiv, PM_mod, PM_pow, PM_neg, PM_lt, PM_le, PM_gt, PM_ge, PM_eqi, PM_nei, own_int, own_bl, own_tup, own_str, PM_isNon, PM_isBl, PM_isnot, PM_tbl, PM_tint, PM_tnon, PM_ttup, PM_lenT, PM_lenF, PM_int, PM_abs, PM_tupT, PM_lstF, PM_ixT, PM_eM, PM_iSeq, PM_seqT, PM_seqF, PM_rng1, PM_rng2, PM_enum, PZ_bind, PZ_nx, PZ_bk, PZ_ct, PZ_rt, SQ_nx, SQ_rt, SQ_ct, SQ_bk, TQ_nx, TQ_ct, TQ_bk, TQ_rt, PZ_seq, PZ_ret, PZ_drop, PZ_if, PZ_asg, PZ_one, PZ_par, PZ_allN, PZ_allC, PZ_tup, PZ_sub, PZ_fld, PZ_for, List.getElem?_cons_zero, List.getElem?_cons_succ, Option.some.injEq, exists_eq_left', exists_eq_left, List.set_cons_zero, List.set_cons_succ, setAll, List.length_cons, List.length_nil, List.map_cons, List.map_nil, Nat.reduceAdd, Nat.reduceSub, List.replicate, List.cons_append, List.nil_append, true_and, and_true, Bool.not_true, Bool.not_false, if_true, if_false, Bool.false_eq_true, D.int.injEq, D.isNon, D.isBl, Nat.reduceLeDiff, dropR_len, Nat.le_refl, ite_true, ite_false, reduceCtorEq]; exact congrArg D.bl hf.symm
        | true =>
          cases h2 : isW b with
          | false => simp only [PM_ret, PM_bind, PM_guard, PM_slot', PM_eC, PM_eOp, PM_eUn, PM_eT, PM_tV, PM_eAnd, PM_eOr, PM_tAnd, PM_tOr, PM_tNot, PM_eIf, PM_tIf, PM_tCmp, PM_tChn, PM_last, PM_more, PM_aNil, PM_aCons, PM_eTup, PM_eLst, PM_eCall, PM_eNew, PM_eDrop, PM_add, PM_sub, PM_mul, PM_fdiv, PM_mod, PM_pow, PM_neg, PM_lt, PM_le, PM_gt, PM_ge, PM_eqi, PM_nei, own_int, own_bl, own_tup, own_str, PM_isNon, PM_isBl, PM_isnot, PM_tbl, PM_tint, PM_tnon, PM_ttup, PM_lenT, PM_lenF, PM_int, PM_abs, PM_tupT, PM_lstF, PM_ixT, PM_eM, PM_iSeq, PM_seqT, PM_seqF, PM_rng1, PM_rng2, PM_enum, PZ_bind, PZ_nx, PZ_bk, PZ_ct, PZ_rt, SQ_nx, SQ_rt, SQ_ct, SQ_bk, TQ_nx, TQ_ct, TQ_bk, TQ_rt, PZ_seq, PZ_ret, PZ_drop, PZ_if, PZ_asg, PZ_one, PZ_par, PZ_allN, PZ_allC, PZ_tup, PZ_sub, PZ_fld, PZ_for, List.getElem?_cons_zero, List.getElem?_cons_succ, Option.some.injEq, exists_eq_left', exists_eq_left, List.set_cons_zero, List.set_cons_succ, setAll, List.length_cons, List.length_nil, List.map_cons, List.map_nil, Nat.reduceAdd, Nat.reduceSub, List.replicate, List.cons_append, List.nil_append, true_and, and_true, Bool.not_true, Bool.not_false, if_true, if_false, Bool.false_eq_true, D.int.injEq, D.isNon, D.isBl, Nat.reduceLeDiff, dropR_len, Nat.le_refl, ite_true, ite_false, reduceCtorEq, PM_fldO fl1, PM_of hw2, h2]; exact congrArg D.bl hf.symm
          | true => exact absurd ⟨h1, h2⟩ hab
end


section
variable {k : Nat} {S : Store} {Q : D → Store → Prop} {U : Unit → Store → Prop}
/-! ### the pen -/
def penC (q : Nat) (a d c f : Int) : List (Key × D) := [(.inr "cells", .ref q), (.inr "at", .int a), (.inr "digits", .int d), (.inr "count", .int c), (.inr "fold", .int f)]
/-- the store with such a pen at p -/
def penS (S : Store) (p q : Nat) (a d c f : Int) : Store := S.set p (.dct (penC q a d c f))
section
variable {p q : Nat} {a d c f x : Int} (hp : p < S.length)
include hp
theorem penS_at : (penS S p q a d c f)[p]? = some (.dct (penC q a d c f)) := by
  unfold penS; rw [List.getElem?_set_self hp]
theorem pg_cells : PM (oIx (.ref p) (.str "cells")) (penS S p q a d c f) Q ↔ Q (.ref q) (penS S p q a d c f) := PM_ixD (penS_at hp) rfl
theorem pg_at : PM (oIx (.ref p) (.str "at")) (penS S p q a d c f) Q ↔ Q (.int a) (penS S p q a d c f) := PM_ixD (penS_at hp) rfl
theorem pg_digits : PM (oIx (.ref p) (.str "digits")) (penS S p q a d c f) Q ↔ Q (.int d) (penS S p q a d c f) := PM_ixD (penS_at hp) rfl
theorem pg_count : PM (oIx (.ref p) (.str "count")) (penS S p q a d c f) Q ↔ Q (.int c) (penS S p q a d c f) := PM_ixD (penS_at hp) rfl
theorem pg_fold : PM (oIx (.ref p) (.str "fold")) (penS S p q a d c f) Q ↔ Q (.int f) (penS S p q a d c f) := PM_ixD (penS_at hp) rfl
theorem five : (penC q a d c f).length < sizeLine := by
  have : (penC q a d c f).length = 5 := rfl
  rw [this]; have := sizeLine_big; omega
theorem penS_set {x : Cell} : (penS S p q a d c f).set p x = S.set p x := by unfold penS; rw [List.set_set]
theorem pp_at : PM (oPut (.ref p) (.str "at") (.int x)) (penS S p q a d c f) U ↔ U () (penS S p q x d c f) := by
  rw [PM_putD (penS_at hp) (five hp), penS_set hp]; rfl
theorem pp_digits : PM (oPut (.ref p) (.str "digits") (.int x)) (penS S p q a d c f) U ↔ U () (penS S p q a x c f) := by
  rw [PM_putD (penS_at hp) (five hp), penS_set hp]; rfl
theorem pp_count : PM (oPut (.ref p) (.str "count") (.int x)) (penS S p q a d c f) U ↔ U () (penS S p q a d x f) := by
  rw [PM_putD (penS_at hp) (five hp), penS_set hp]; rfl
theorem pp_fold : PM (oPut (.ref p) (.str "fold") (.int x)) (penS S p q a d c f) U ↔ U () (penS S p q a d c x) := by
  rw [PM_putD (penS_at hp) (five hp), penS_set hp]; rfl
end
theorem penS_len {p q : Nat} {a d c f : Int} : (penS S p q a d c f).length = S.length := by unfold penS; simp
theorem penS_other {p q r : Nat} {a d c f : Int} (h : r ≠ p) : (penS S p q a d c f)[r]? = S[r]? := by
  unfold penS; rw [List.getElem?_set_ne (Ne.symm h)]
theorem penS_self {p q : Nat} {a d c f : Int} (h : S[p]? = some (.dct (penC q a d c f))) : S = penS S p q a d c f := by
  unfold penS
  apply List.ext_getElem?
  intro i
  by_cases hi : i = p
  · subst hi
    rw [List.getElem?_set_self (List.getElem?_eq_some_iff.mp h).1, h]
  · rw [List.getElem?_set_ne (Ne.symm hi)]
/-- a pen stands at p -/
def PenAt (p q : Nat) (S : Store) : Prop := ∃ (a d c f : Int) (cells : List Int), q ≠ p ∧ S[p]? = some (.dct (penC q a d c f)) ∧ S[q]? = some (.lst (cells.map .int)) ∧ 0 ≤ a ∧ 0 ≤ d
theorem PenAt.lt {p q : Nat} (h : PenAt p q S) : p < S.length ∧ q < S.length := by
  obtain ⟨_, _, _, _, _, _, h, h2, _⟩ := h
  exact ⟨(List.getElem?_eq_some_iff.mp h).1, (List.getElem?_eq_some_iff.mp h2).1⟩
/-- behind a draw -/
def Drawn (p q : Nat) (S S' : Store) : Prop := PenAt p q S' ∧ ∃ c, S' = S.set p c
theorem atI_int {cells : List Int} {a : Int} (h0 : 0 ≤ a) (h1 : a < (cells.map D.int).length) : ∃ z, atI (cells.map D.int) a = some (.int z) := by
  rw [List.length_map] at h1
  refine ⟨cells[a.toNat]'(by omega), ?_⟩
  have := atI_nat (xs := cells.map D.int) (n := a.toNat) (d := .int (cells[a.toNat]'(by omega))) (by rw [List.getElem?_map, List.getElem?_eq_getElem (by omega)]; rfl)
  have e : ((a.toNat : Nat) : Int) = a := by omega
  rwa [e] at this
theorem pow18 : powOk 10 18 := by decide
theorem fdivOk {j : Int} (h : 1 ≤ j) (h2 : j < 2 ^ 64) : divOk j := by
  have := divOk_nat (n := j.toNat) (by omega) (by omega)
  have e : ((j.toNat : Nat) : Int) = j := by omega
  rwa [e] at this
theorem fdiv_nn {a b : Int} (h : 0 ≤ a) (h2 : 1 ≤ b) : 0 ≤ a.fdiv b := by
  rw [Int.fdiv_eq_ediv_of_nonneg _ (by omega)]
  exact Int.ediv_nonneg h (by omega)
/-- the tail of draw: behind the step of the script -/
theorem drawn_end {p q : Nat} {a d c f : Int} {cells : List Int} {a0 d0 c0 f0 : Int} (hq : q ≠ p) (hS : S[p]? = some (.dct (penC q a0 d0 c0 f0))) (hc : S[q]? = some (.lst (cells.map .int))) (h1 : 0 ≤ a) (h2 : 0 ≤ d) : Drawn p q S (penS S p q a d c f) :=
  ⟨⟨a, d, c, f, cells, hq, penS_at (List.getElem?_eq_some_iff.mp hS).1, by rw [penS_other hq]; exact hc, h1, h2⟩, _, rfl⟩
theorem e_draw {p q : Nat} {many : Int} (h : PenAt p q S) (hm : 1 ≤ many) (hm2 : many < 2 ^ 64) : PM ((CC (k + 1)).fn 23 [.ref p, .int many]) S fun r S' => (∃ i, r = .int i ∧ 0 ≤ i ∧ i < many) ∧ Drawn p q S S' := by
  refine PM_fn rfl rfl rfl ?_
  obtain ⟨a, d, c, f, cells, hq, hS, hc, ha, hd⟩ := h
  have hp := (List.getElem?_eq_some_iff.mp hS).1
  have fin : ∀ (a d c f i : Int), 0 ≤ a → 0 ≤ d → 0 ≤ i → i < many → ((0 ≤ i ∧ i < many) ∧ Drawn p q S (dropR S (.int i) (penS S p q a d c f))) := fun a d c f i h1 h2 h3 h4 => by
    rw [dropR_len (by rw [penS_len]; exact Nat.le_refl _)]
    exact ⟨⟨h3, h4⟩, drawn_end hq hS hc h1 h2⟩
  -- the second half
  have half : ∀ (a d c f : Int) (cell dg bl : Option D), 0 ≤ a → 0 ≤ d → PZ ((sSeq (sIf (tCmp cGt (eOp oIx (eSlot 0) (eC (.str "digits"))) (eC (.int 0))) (sSeq (sAsg (gOne 3) (eOp oMod (eUn fInt (eOp oIx (eSlot 0) (eC (.str "digits")))) (eSlot 1)))
      (sSeq (sAsg (gSubS (eSlot 0) (eC (.str "digits"))) (eOp oFdiv (eOp oIx (eSlot 0) (eC (.str "digits"))) (eSlot 1)))
      (sRet (eSlot 3)))) sNx)
      (sSeq (sAsg (gOne 4) (eOp oMod (eUn fInt (eOp oAdd (eOp oAdd (eOp oMul (eOp oIx (eSlot 0) (eC (.str "fold"))) (eC (.int 48271))) (eOp oMul (eOp oIx (eSlot 0) (eC (.str "count"))) (eC (.int 7919)))) (eC (.int 13)))) (eC (.int 2147483647))))
      (sSeq (sAsg (gOne 4) (eOp oMod (eUn fInt (eOp oAdd (eOp oAdd (eOp oMul (eSlot 4) (eSlot 4)) (eOp oMul (eC (.int 31)) (eSlot 4))) (eOp oIx (eSlot 0) (eC (.str "count"))))) (eC (.int 2147483629))))
      (sSeq (sAsg (gSubS (eSlot 0) (eC (.str "fold"))) (eOp oMod (eUn fInt (eOp oAdd (eOp oMul (eSlot 4) (eC (.int 16807))) (eC (.int 7)))) (eC (.int 2147483647))))
      (sRet (eOp oMod (eUn fInt (eOp oFdiv (eSlot 4) (eC (.int 64)))) (eSlot 1)))))))) [some (.ref p), some (.int many), cell, dg, bl] (penS S p q a d c f)
      (fun r => match r with
      | .rt d S' => (∃ i, d = .int i ∧ 0 ≤ i ∧ i < many) ∧ Drawn p q S (dropR S d S')
      | .nx _ S' => (∃ i, D.non = .int i ∧ 0 ≤ i ∧ i < many) ∧ Drawn p q S (dropR S .non S')
      | _ => False) := by
    intro a d c f cell dg bl h1 h2
    have hmn : many ≠ 0 := by omega
    by_cases hd0 : 0 < d
    · simp only [PM_ret, PM_bind, PM_guard, PM_slot', PM_eC, PM_eOp, PM_eUn, PM_eT, PM_tV, PM_eAnd, PM_eOr, PM_tAnd, PM_tOr, PM_tNot, PM_eIf, PM_tIf, PM_tCmp, PM_tChn, PM_last, PM_more, PM_aNil, PM_aCons, PM_eTup, PM_eLst, PM_eCall, PM_eNew, PM_eDrop, PM_add, PM_sub, PM_mul, PM_fdiv, PM_mod, PM_pow, PM_neg, PM_lt, PM_le, PM_gt, PM_ge, PM_eqi, PM_nei, own_int, own_bl, own_tup, own_str, PM_isNon, PM_isBl, PM_isnot, PM_tbl, PM_tint, PM_tnon, PM_ttup, PM_lenT, PM_lenF, PM_int, PM_abs, PM_tupT, PM_lstF, PM_ixT, PM_eM, PM_iSeq, PM_seqT, PM_seqF, PM_rng1, PM_rng2, PM_enum, PZ_bind, PZ_nx, PZ_bk, PZ_ct, PZ_rt, SQ_nx, SQ_rt, SQ_ct, SQ_bk, TQ_nx, TQ_ct, TQ_bk, TQ_rt, PZ_seq, PZ_ret, PZ_drop, PZ_if, PZ_asg, PZ_one, PZ_par, PZ_allN, PZ_allC, PZ_tup, PZ_sub, PZ_fld, PZ_for, List.getElem?_cons_zero, List.getElem?_cons_succ, Option.some.injEq, exists_eq_left', exists_eq_left, List.set_cons_zero, List.set_cons_succ, setAll, List.length_cons, List.length_nil, List.map_cons, List.map_nil, Nat.reduceAdd, Nat.reduceSub, List.replicate, List.cons_append, List.nil_append, true_and, and_true, Bool.not_true, Bool.not_false, if_true, if_false, Bool.false_eq_true, D.int.injEq, D.isNon, D.isBl, Nat.reduceLeDiff, dropR_len, Nat.le_refl, ite_true, ite_false, reduceCtorEq, pg_digits hp, pp_digits hp, decide_eq_true hd0, fdivOk hm hm2, hmn, ne_eq, not_false_eq_true]
      exact fin _ _ _ _ _ h1 (fdiv_nn h2 hm) (Int.fmod_nonneg_of_pos _ (by omega)) (Int.fmod_lt_of_pos _ (by omega))
    · have m1 : mulOk f 48271 := mulOk_r (by decide) (by decide)
      have m2 : mulOk c 7919 := mulOk_r (by decide) (by decide)
      have z1 : ¬ (2147483647 : Int) = 0 := by decide
      have z2 : ¬ (2147483629 : Int) = 0 := by decide
      have z3 : divOk 64 := by decide
      simp only [PM_ret, PM_bind, PM_guard, PM_slot', PM_eC, PM_eOp, PM_eUn, PM_eT, PM_tV, PM_eAnd, PM_eOr, PM_tAnd, PM_tOr, PM_tNot, PM_eIf, PM_tIf, PM_tCmp, PM_tChn, PM_last, PM_more, PM_aNil, PM_aCons, PM_eTup, PM_eLst, PM_eCall, PM_eNew, PM_eDrop, PM_add, PM_sub, PM_mul, PM_fdiv, PM_mod, PM_pow, PM_neg, PM_lt, PM_le, PM_gt, PM_ge, PM_eqi, PM_nei, own_int, own_bl, own_tup, own_str, PM_isNon, PM_isBl, PM_isnot, PM_tbl, PM_tint, PM_tnon, PM_ttup, PM_lenT, PM_lenF, PM_int, PM_abs, PM_tupT, PM_lstF, PM_ixT, PM_eM, PM_iSeq, PM_seqT, PM_seqF, PM_rng1, PM_rng2, PM_enum, PZ_bind, PZ_nx, PZ_bk, PZ_ct, PZ_rt, SQ_nx, SQ_rt, SQ_ct, SQ_bk, TQ_nx, TQ_ct, TQ_bk, TQ_rt, PZ_seq, PZ_ret, PZ_drop, PZ_if, PZ_asg, PZ_one, PZ_par, PZ_allN, PZ_allC, PZ_tup, PZ_sub, PZ_fld, PZ_for, List.getElem?_cons_zero, List.getElem?_cons_succ, Option.some.injEq, exists_eq_left', exists_eq_left, List.set_cons_zero, List.set_cons_succ, setAll, List.length_cons, List.length_nil, List.map_cons, List.map_nil, Nat.reduceAdd, Nat.reduceSub, List.replicate, List.cons_append, List.nil_append, true_and, and_true, Bool.not_true, Bool.not_false, if_true, if_false, Bool.false_eq_true, D.int.injEq, D.isNon, D.isBl, Nat.reduceLeDiff, dropR_len, Nat.le_refl, ite_true, ite_false, reduceCtorEq, pg_digits hp, pg_fold hp, pg_count hp, decide_eq_false hd0, m1, m2, z1, z2, z3, ne_eq, not_false_eq_true]
      generalize hb : (f * 48271 + c * 7919 + 13).fmod 2147483647 = bb
      have b1 : 0 ≤ bb := by rw [← hb]; exact Int.fmod_nonneg_of_pos _ (by decide)
      have b2 : bb < 2147483647 := by rw [← hb]; exact Int.fmod_lt_of_pos _ (by decide)
      have m3 : mulOk bb bb := mulOk_r (by omega) (by omega)
      have m4 : mulOk 31 bb := mulOk_r (by omega) (by omega)
      have m5 : mulOk ((bb * bb + 31 * bb + c).fmod 2147483629) 16807 := mulOk_r (by decide) (by decide)
      simp only [m3, m4, m5, PM_ret, PM_bind, PM_guard, PM_slot', PM_eC, PM_eOp, PM_eUn, PM_eT, PM_tV, PM_eAnd, PM_eOr, PM_tAnd, PM_tOr, PM_tNot, PM_eIf, PM_tIf, PM_tCmp, PM_tChn, PM_last, PM_more, PM_aNil, PM_aCons, PM_eTup, PM_eLst, PM_eCall, PM_eNew, PM_eDrop, PM_add, PM_sub, PM_mul, PM_fdiv, PM_mod, PM_pow, PM_neg, PM_lt, PM_le, PM_gt, PM_ge, PM_eqi, PM_nei, own_int, own_bl, own_tup, own_str, PM_isNon, PM_isBl, PM_isnot, PM_tbl, PM_tint, PM_tnon, PM_ttup, PM_lenT, PM_lenF, PM_int, PM_abs, PM_tupT, PM_lstF, PM_ixT, PM_eM, PM_iSeq, PM_seqT, PM_seqF, PM_rng1, PM_rng2, PM_enum, PZ_bind, PZ_nx, PZ_bk, PZ_ct, PZ_rt, SQ_nx, SQ_rt, SQ_ct, SQ_bk, TQ_nx, TQ_ct, TQ_bk, TQ_rt, PZ_seq, PZ_ret, PZ_drop, PZ_if, PZ_asg, PZ_one, PZ_par, PZ_allN, PZ_allC, PZ_tup, PZ_sub, PZ_fld, PZ_for, List.getElem?_cons_zero, List.getElem?_cons_succ, Option.some.injEq, exists_eq_left', exists_eq_left, List.set_cons_zero, List.set_cons_succ, setAll, List.length_cons, List.length_nil, List.map_cons, List.map_nil, Nat.reduceAdd, Nat.reduceSub, List.replicate, List.cons_append, List.nil_append, true_and, and_true, Bool.not_true, Bool.not_false, if_true, if_false, Bool.false_eq_true, D.int.injEq, D.isNon, D.isBl, Nat.reduceLeDiff, dropR_len, Nat.le_refl, ite_true, ite_false, reduceCtorEq, pp_fold hp, hmn]
      exact ⟨fun z => z, fin _ _ _ _ _ h1 h2 (Int.fmod_nonneg_of_pos _ (by omega)) (Int.fmod_lt_of_pos _ (by omega))⟩
  have e := penS_self hS
  have hqc : ∀ {a d c f : Int}, (penS S p q a d c f)[q]? = some (.lst (cells.map .int)) := fun {a d c f} => by rw [penS_other hq]; exact hc
  have start : PZ (b__law_draw (CC k)) [some (.ref p), some (.int many), none, none, none] (penS S p q a d c f) (fun r => match r with
      | .rt d S' => (∃ i, d = .int i ∧ 0 ≤ i ∧ i < many) ∧ Drawn p q S (dropR S d S')
      | .nx _ S' => (∃ i, D.non = .int i ∧ 0 ≤ i ∧ i < many) ∧ Drawn p q S (dropR S .non S')
      | _ => False) := by
    unfold b__law_draw
    rw [PZ_seq]
    simp only [PZ_asg, PM_eOp, PM_eC, PM_slot', PZ_sub, SQ_nx, List.getElem?_cons_zero, Option.some.injEq, exists_eq_left', exists_eq_left, pg_count hp, pp_count hp, PM_add]
    rw [PZ_seq]
    generalize hK : SQ _ _ = K
    have half2 : ∀ (a d c f : Int) (cell dg bl : Option D), 0 ≤ a → 0 ≤ d → K (.nx [some (.ref p), some (.int many), cell, dg, bl] (penS S p q a d c f)) := fun a d c f cell dg bl h1 h2 => by
      rw [← hK]; exact half a d c f cell dg bl h1 h2
    by_cases hd0 : d = 0
    · by_cases ha1 : a < (cells.map D.int).length
      · obtain ⟨z, hz⟩ := atI_int ha ha1
        have hp1 : mulOk f 69069 := mulOk_r (by decide) (by decide)
        have z1 : ¬ (2147483587 : Int) = 0 := by decide
        have e18 : (10 : Int) ^ (18 : Int).toNat = 1000000000000000000 := by decide
        by_cases hz18 : (1000000000000000000 : Int) ≤ z
        · simp only [PM_ret, PM_bind, PM_guard, PM_slot', PM_eC, PM_eOp, PM_eUn, PM_eT, PM_tV, PM_eAnd, PM_eOr, PM_tAnd, PM_tOr, PM_tNot, PM_eIf, PM_tIf, PM_tCmp, PM_tChn, PM_last, PM_more, PM_aNil, PM_aCons, PM_eTup, PM_eLst, PM_eCall, PM_eNew, PM_eDrop, PM_add, PM_sub, PM_mul, PM_fdiv, PM_mod, PM_pow, PM_neg, PM_lt, PM_le, PM_gt, PM_ge, PM_eqi, PM_nei, own_int, own_bl, own_tup, own_str, PM_isNon, PM_isBl, PM_isnot, PM_tbl, PM_tint, PM_tnon, PM_ttup, PM_lenT, PM_lenF, PM_int, PM_abs, PM_tupT, PM_lstF, PM_ixT, PM_eM, PM_iSeq, PM_seqT, PM_seqF, PM_rng1, PM_rng2, PM_enum, PZ_bind, PZ_nx, PZ_bk, PZ_ct, PZ_rt, SQ_nx, SQ_rt, SQ_ct, SQ_bk, TQ_nx, TQ_ct, TQ_bk, TQ_rt, PZ_seq, PZ_ret, PZ_drop, PZ_if, PZ_asg, PZ_one, PZ_par, PZ_allN, PZ_allC, PZ_tup, PZ_sub, PZ_fld, PZ_for, List.getElem?_cons_zero, List.getElem?_cons_succ, Option.some.injEq, exists_eq_left', exists_eq_left, List.set_cons_zero, List.set_cons_succ, setAll, List.length_cons, List.length_nil, List.map_cons, List.map_nil, Nat.reduceAdd, Nat.reduceSub, List.replicate, List.cons_append, List.nil_append, true_and, and_true, Bool.not_true, Bool.not_false, if_true, if_false, Bool.false_eq_true, D.int.injEq, D.isNon, D.isBl, Nat.reduceLeDiff, dropR_len, Nat.le_refl, ite_true, ite_false, reduceCtorEq, pg_digits hp, pg_at hp, pg_cells hp, pp_at hp, pp_digits hp, decide_eq_true hd0, PM_lenL hqc, decide_eq_true ha1, PM_ixL hqc, hz, pow18, e18, decide_eq_true hz18]
          exact half2 _ _ _ _ _ _ _ (by omega) (by omega)
        · simp only [PM_ret, PM_bind, PM_guard, PM_slot', PM_eC, PM_eOp, PM_eUn, PM_eT, PM_tV, PM_eAnd, PM_eOr, PM_tAnd, PM_tOr, PM_tNot, PM_eIf, PM_tIf, PM_tCmp, PM_tChn, PM_last, PM_more, PM_aNil, PM_aCons, PM_eTup, PM_eLst, PM_eCall, PM_eNew, PM_eDrop, PM_add, PM_sub, PM_mul, PM_fdiv, PM_mod, PM_pow, PM_neg, PM_lt, PM_le, PM_gt, PM_ge, PM_eqi, PM_nei, own_int, own_bl, own_tup, own_str, PM_isNon, PM_isBl, PM_isnot, PM_tbl, PM_tint, PM_tnon, PM_ttup, PM_lenT, PM_lenF, PM_int, PM_abs, PM_tupT, PM_lstF, PM_ixT, PM_eM, PM_iSeq, PM_seqT, PM_seqF, PM_rng1, PM_rng2, PM_enum, PZ_bind, PZ_nx, PZ_bk, PZ_ct, PZ_rt, SQ_nx, SQ_rt, SQ_ct, SQ_bk, TQ_nx, TQ_ct, TQ_bk, TQ_rt, PZ_seq, PZ_ret, PZ_drop, PZ_if, PZ_asg, PZ_one, PZ_par, PZ_allN, PZ_allC, PZ_tup, PZ_sub, PZ_fld, PZ_for, List.getElem?_cons_zero, List.getElem?_cons_succ, Option.some.injEq, exists_eq_left', exists_eq_left, List.set_cons_zero, List.set_cons_succ, setAll, List.length_cons, List.length_nil, List.map_cons, List.map_nil, Nat.reduceAdd, Nat.reduceSub, List.replicate, List.cons_append, List.nil_append, true_and, and_true, Bool.not_true, Bool.not_false, if_true, if_false, Bool.false_eq_true, D.int.injEq, D.isNon, D.isBl, Nat.reduceLeDiff, dropR_len, Nat.le_refl, ite_true, ite_false, reduceCtorEq, pg_digits hp, pg_at hp, pg_cells hp, pg_fold hp, pp_at hp, pp_fold hp, decide_eq_true hd0, PM_lenL hqc, decide_eq_true ha1, PM_ixL hqc, hz, pow18, e18, decide_eq_false hz18, hp1, z1, ne_eq, not_false_eq_true]
          exact half2 _ _ _ _ _ _ _ (by omega) hd
      · simp only [PM_ret, PM_bind, PM_guard, PM_slot', PM_eC, PM_eOp, PM_eUn, PM_eT, PM_tV, PM_eAnd, PM_eOr, PM_tAnd, PM_tOr, PM_tNot, PM_eIf, PM_tIf, PM_tCmp, PM_tChn, PM_last, PM_more, PM_aNil, PM_aCons, PM_eTup, PM_eLst, PM_eCall, PM_eNew, PM_eDrop, PM_add, PM_sub, PM_mul, PM_fdiv, PM_mod, PM_pow, PM_neg, PM_lt, PM_le, PM_gt, PM_ge, PM_eqi, PM_nei, own_int, own_bl, own_tup, own_str, PM_isNon, PM_isBl, PM_isnot, PM_tbl, PM_tint, PM_tnon, PM_ttup, PM_lenT, PM_lenF, PM_int, PM_abs, PM_tupT, PM_lstF, PM_ixT, PM_eM, PM_iSeq, PM_seqT, PM_seqF, PM_rng1, PM_rng2, PM_enum, PZ_bind, PZ_nx, PZ_bk, PZ_ct, PZ_rt, SQ_nx, SQ_rt, SQ_ct, SQ_bk, TQ_nx, TQ_ct, TQ_bk, TQ_rt, PZ_seq, PZ_ret, PZ_drop, PZ_if, PZ_asg, PZ_one, PZ_par, PZ_allN, PZ_allC, PZ_tup, PZ_sub, PZ_fld, PZ_for, List.getElem?_cons_zero, List.getElem?_cons_succ, Option.some.injEq, exists_eq_left', exists_eq_left, List.set_cons_zero, List.set_cons_succ, setAll, List.length_cons, List.length_nil, List.map_cons, List.map_nil, Nat.reduceAdd, Nat.reduceSub, List.replicate, List.cons_append, List.nil_append, true_and, and_true, Bool.not_true, Bool.not_false, if_true, if_false, Bool.false_eq_true, D.int.injEq, D.isNon, D.isBl, Nat.reduceLeDiff, dropR_len, Nat.le_refl, ite_true, ite_false, reduceCtorEq, pg_digits hp, pg_at hp, pg_cells hp, decide_eq_true hd0, PM_lenL hqc, decide_eq_false ha1]
        exact half2 _ _ _ _ _ _ _ ha hd
    · simp only [PM_ret, PM_bind, PM_guard, PM_slot', PM_eC, PM_eOp, PM_eUn, PM_eT, PM_tV, PM_eAnd, PM_eOr, PM_tAnd, PM_tOr, PM_tNot, PM_eIf, PM_tIf, PM_tCmp, PM_tChn, PM_last, PM_more, PM_aNil, PM_aCons, PM_eTup, PM_eLst, PM_eCall, PM_eNew, PM_eDrop, PM_add, PM_sub, PM_mul, PM_fdiv, PM_mod, PM_pow, PM_neg, PM_lt, PM_le, PM_gt, PM_ge, PM_eqi, PM_nei, own_int, own_bl, own_tup, own_str, PM_isNon, PM_isBl, PM_isnot, PM_tbl, PM_tint, PM_tnon, PM_ttup, PM_lenT, PM_lenF, PM_int, PM_abs, PM_tupT, PM_lstF, PM_ixT, PM_eM, PM_iSeq, PM_seqT, PM_seqF, PM_rng1, PM_rng2, PM_enum, PZ_bind, PZ_nx, PZ_bk, PZ_ct, PZ_rt, SQ_nx, SQ_rt, SQ_ct, SQ_bk, TQ_nx, TQ_ct, TQ_bk, TQ_rt, PZ_seq, PZ_ret, PZ_drop, PZ_if, PZ_asg, PZ_one, PZ_par, PZ_allN, PZ_allC, PZ_tup, PZ_sub, PZ_fld, PZ_for, List.getElem?_cons_zero, List.getElem?_cons_succ, Option.some.injEq, exists_eq_left', exists_eq_left, List.set_cons_zero, List.set_cons_succ, setAll, List.length_cons, List.length_nil, List.map_cons, List.map_nil, Nat.reduceAdd, Nat.reduceSub, List.replicate, List.cons_append, List.nil_append, true_and, and_true, Bool.not_true, Bool.not_false, if_true, if_false, Bool.false_eq_true, D.int.injEq, D.isNon, D.isBl, Nat.reduceLeDiff, dropR_len, Nat.le_refl, ite_true, ite_false, reduceCtorEq, pg_digits hp, decide_eq_false hd0]
      exact half2 _ _ _ _ _ _ _ ha hd
  rw [← e] at start
  exact start
end


section
variable {k : Nat} {S : Store} {Q : D → Store → Prop} {B : Bool → Store → Prop}
theorem Drawn.other {p q r : Nat} {S' : Store} (h : Drawn p q S S') (hr : r ≠ p) : S'[r]? = S[r]? := by
  obtain ⟨_, c, rfl⟩ := h
  rw [List.getElem?_set_ne (Ne.symm hr)]
theorem Drawn.len {p q : Nat} {S' : Store} (h : Drawn p q S S') : S'.length = S.length := by
  obtain ⟨_, c, rfl⟩ := h; simp
theorem PenAt.ap {p q : Nat} {c : List Cell} (h : PenAt p q S) : PenAt p q (S ++ c) := by
  obtain ⟨a, d, e, f, cells, h1, h2, h3, h4⟩ := h
  exact ⟨a, d, e, f, cells, h1, by rw [List.getElem?_append_left (List.getElem?_eq_some_iff.mp h2).1]; exact h2, by rw [List.getElem?_append_left (List.getElem?_eq_some_iff.mp h3).1]; exact h3, h4⟩
theorem PenAt.take {p q n : Nat} (h : PenAt p q S) (hp : p < n) (hq : q < n) : PenAt p q (S.take n) := by
  obtain ⟨a, d, e, f, cells, h1, h2, h3, h4⟩ := h
  exact ⟨a, d, e, f, cells, h1, by rw [List.getElem?_take, if_pos hp]; exact h2, by rw [List.getElem?_take, if_pos hq]; exact h3, h4⟩
theorem PenAt.set {p q r : Nat} {c : Cell} (h : PenAt p q S) (h1 : r ≠ p) (h2 : r ≠ q) : PenAt p q (S.set r c) := by
  obtain ⟨a, d, e, f, cells, g1, g2, g3, g4⟩ := h
  exact ⟨a, d, e, f, cells, g1, by rw [List.getElem?_set_ne h1]; exact g2, by rw [List.getElem?_set_ne h2]; exact g3, g4⟩
theorem PenAt.drop {p q : Nat} {S' : Store} {d : D} (h : PenAt p q S') (h0 : PenAt p q S) : PenAt p q (dropR S d S') := by
  unfold dropR
  split
  · exact h
  · split
    · exact h.take h0.lt.1 h0.lt.2
    · exact h
/-- any list is what it is against [] -/
theorem PM_eqNil {r r2 : Nat} {xs : List D} {ps : List PyData} (h : S[r]? = some (.lst xs)) (h2 : S[r2]? = some (.lst [])) (hp : toPs xs = some ps) : PM (cEq (.ref r) (.ref r2)) S B ↔ B xs.isEmpty S := by
  refine PM_of ?_
  have e1 : toPS S (.ref r) = some (.list ps) := by
    show (match S[r]? with
      | some (.lst xs) => (toPs xs).map PyData.list
      | _ => none) = _
    rw [h]; show (toPs xs).map PyData.list = _; rw [hp]; rfl
  have e2 : toPS S (.ref r2) = some (.list []) := by
    show (match S[r2]? with
      | some (.lst xs) => (toPs xs).map PyData.list
      | _ => none) = _
    rw [h2]; rfl
  unfold cEq
  rw [e1, e2]
  simp only
  rw [if_pos (Nat.le_trans (Nat.min_le_right _ _) (by decide))]
  have e3 : PyData.eqv (.list ps) (.list []) = xs.isEmpty := by
    cases xs with
    | nil => cases hp; rfl
    | cons x xs =>
      cases ps with
      | nil =>
        unfold toPs at hp
        split at hp <;> cases hp
      | cons q qs => rfl
  rw [e3]
theorem e_pick {p q r : Nat} {xs : List D} (h : PenAt p q S) (hr : S[r]? = some (.lst xs)) (hrp : r ≠ p) (h1 : 1 ≤ xs.length) (h2 : xs.length < 2 ^ 60) : PM ((CC (k + 2)).fn 24 [.ref p, .ref r]) S fun d S' => d ∈ xs ∧ Drawn p q S S' := by
  refine PM_fn rfl rfl rfl ?_
  unfold b__law_pick
  simp only [PM_ret, PM_bind, PM_guard, PM_slot', PM_eC, PM_eOp, PM_eUn, PM_eT, PM_tV, PM_eAnd, PM_eOr, PM_tAnd, PM_tOr, PM_tNot, PM_eIf, PM_tIf, PM_tCmp, PM_tChn, PM_last, PM_more, PM_aNil, PM_aCons, PM_eTup, PM_eLst, PM_eCall, PM_eNew, PM_eDrop, PM_add, PM_sub, PM_mul, PM_fdiv, PM_mod, PM_pow, PM_neg, PM_lt, PM_le, PM_gt, PM_ge, PM_eqi, PM_nei, own_int, own_bl, own_tup, own_str, PM_isNon, PM_isBl, PM_isnot, PM_tbl, PM_tint, PM_tnon, PM_ttup, PM_lenT, PM_lenF, PM_int, PM_abs, PM_tupT, PM_lstF, PM_ixT, PM_eM, PM_iSeq, PM_seqT, PM_seqF, PM_rng1, PM_rng2, PM_enum, PZ_bind, PZ_nx, PZ_bk, PZ_ct, PZ_rt, SQ_nx, SQ_rt, SQ_ct, SQ_bk, TQ_nx, TQ_ct, TQ_bk, TQ_rt, PZ_seq, PZ_ret, PZ_drop, PZ_if, PZ_asg, PZ_one, PZ_par, PZ_allN, PZ_allC, PZ_tup, PZ_sub, PZ_fld, PZ_for, List.getElem?_cons_zero, List.getElem?_cons_succ, Option.some.injEq, exists_eq_left', exists_eq_left, List.set_cons_zero, List.set_cons_succ, setAll, List.length_cons, List.length_nil, List.map_cons, List.map_nil, Nat.reduceAdd, Nat.reduceSub, List.replicate, List.cons_append, List.nil_append, true_and, and_true, Bool.not_true, Bool.not_false, if_true, if_false, Bool.false_eq_true, D.int.injEq, D.isNon, D.isBl, Nat.reduceLeDiff, dropR_len, Nat.le_refl, ite_true, ite_false, reduceCtorEq, PM_lenL hr]
  refine (e_draw (k := k) (S := S) (p := p) (q := q) (many := (xs.length : Int)) h (by omega) (by omega)).imp ?_
  rintro d S' ⟨⟨i, rfl, i1, i2⟩, hd⟩
  have hr' : S'[r]? = some (.lst xs) := by rw [hd.other hrp]; exact hr
  have hx : ∃ x, xs[i.toNat]? = some x := ⟨_, List.getElem?_eq_getElem (by omega)⟩
  obtain ⟨x, hx⟩ := hx
  have ha : atI xs i = some x := by
    have := atI_nat hx
    have e : ((i.toNat : Nat) : Int) = i := by omega
    rwa [e] at this
  simp only [PM_ret, PM_bind, PM_guard, PM_slot', PM_eC, PM_eOp, PM_eUn, PM_eT, PM_tV, PM_eAnd, PM_eOr, PM_tAnd, PM_tOr, PM_tNot, PM_eIf, PM_tIf, PM_tCmp, PM_tChn, PM_last, PM_more, PM_aNil, PM_aCons, PM_eTup, PM_eLst, PM_eCall, PM_eNew, PM_eDrop, PM_add, PM_sub, PM_mul, PM_fdiv, PM_mod, PM_pow, PM_neg, PM_lt, PM_le, PM_gt, PM_ge, PM_eqi, PM_nei, own_int, own_bl, own_tup, own_str, PM_isNon, PM_isBl, PM_isnot, PM_tbl, PM_tint, PM_tnon, PM_ttup, PM_lenT, PM_lenF, PM_int, PM_abs, PM_tupT, PM_lstF, PM_ixT, PM_eM, PM_iSeq, PM_seqT, PM_seqF, PM_rng1, PM_rng2, PM_enum, PZ_bind, PZ_nx, PZ_bk, PZ_ct, PZ_rt, SQ_nx, SQ_rt, SQ_ct, SQ_bk, TQ_nx, TQ_ct, TQ_bk, TQ_rt, PZ_seq, PZ_ret, PZ_drop, PZ_if, PZ_asg, PZ_one, PZ_par, PZ_allN, PZ_allC, PZ_tup, PZ_sub, PZ_fld, PZ_for, List.getElem?_cons_zero, List.getElem?_cons_succ, Option.some.injEq, exists_eq_left', exists_eq_left, List.set_cons_zero, List.set_cons_succ, setAll, List.length_cons, List.length_nil, List.map_cons, List.map_nil, Nat.reduceAdd, Nat.reduceSub, List.replicate, List.cons_append, List.nil_append, true_and, and_true, Bool.not_true, Bool.not_false, if_true, if_false, Bool.false_eq_true, D.int.injEq, D.isNon, D.isBl, Nat.reduceLeDiff, dropR_len, Nat.le_refl, ite_true, ite_false, reduceCtorEq, PM_ixL hr', ha]
  rw [dropR_len (by rw [hd.len]; exact Nat.le_refl _)]
  exact ⟨List.mem_of_getElem? hx, hd⟩
theorem e_is {a b : Bool} : (CC (k + 1)).fn 25 [.bl a, .bl b] S = some (.ok (.bl (a == b)) S) := by
  refine fn_eq (PM_fn rfl rfl rfl ?_)
  unfold b__law_is
  cases a <;> cases b <;> simp only [PM_ret, PM_bind, PM_guard, PM_slot', PM_eC, PM_eOp, PM_eUn, PM_eT, PM_tV, PM_eAnd, PM_eOr, PM_tAnd, PM_tOr, PM_tNot, PM_eIf, PM_tIf, PM_tCmp, PM_tChn, PM_last, PM_more, PM_aNil, PM_aCons, PM_eTup, PM_eLst, PM_eCall, PM_eNew, PM_eDrop, PM_add, PM_sub, PM_mul, PM_fdiv, PM_mod, PM_pow, PM_neg, PM_lt, PM_le, PM_gt, PM_ge, PM_eqi, PM_nei, own_int, own_bl, own_tup, own_str, PM_isNon, PM_isBl, PM_isnot, PM_tbl, PM_tint, PM_tnon, PM_ttup, PM_lenT, PM_lenF, PM_int, PM_abs, PM_tupT, PM_lstF, PM_ixT, PM_eM, PM_iSeq, PM_seqT, PM_seqF, PM_rng1, PM_rng2, PM_enum, PZ_bind, PZ_nx, PZ_bk, PZ_ct, PZ_rt, SQ_nx, SQ_rt, SQ_ct, SQ_bk, TQ_nx, TQ_ct, TQ_bk, TQ_rt, PZ_seq, PZ_ret, PZ_drop, PZ_if, PZ_asg, PZ_one, PZ_par, PZ_allN, PZ_allC, PZ_tup, PZ_sub, PZ_fld, PZ_for, List.getElem?_cons_zero, List.getElem?_cons_succ, Option.some.injEq, exists_eq_left', exists_eq_left, List.set_cons_zero, List.set_cons_succ, setAll, List.length_cons, List.length_nil, List.map_cons, List.map_nil, Nat.reduceAdd, Nat.reduceSub, List.replicate, List.cons_append, List.nil_append, true_and, and_true, Bool.not_true, Bool.not_false, if_true, if_false, Bool.false_eq_true, D.int.injEq, D.isNon, D.isBl, Nat.reduceLeDiff, dropR_len, Nat.le_refl, ite_true, ite_false, reduceCtorEq, PM_isiN, PM_isiB, PM_isiI, PM_isiS, PM_isiT, isT_ty, bs_NoneType_NoneType, bs_NoneType_bool, bs_NoneType_int, bs_NoneType_str, bs_NoneType_list, bs_NoneType_tuple, bs_NoneType_dict, bs_bool_NoneType, bs_bool_bool, bs_bool_int, bs_bool_str, bs_bool_list, bs_bool_tuple, bs_bool_dict, bs_int_NoneType, bs_int_bool, bs_int_int, bs_int_str, bs_int_list, bs_int_tuple, bs_int_dict, bs_str_NoneType, bs_str_bool, bs_str_int, bs_str_str, bs_str_list, bs_str_tuple, bs_str_dict, bs_list_NoneType, bs_list_bool, bs_list_int, bs_list_str, bs_list_list, bs_list_tuple, bs_list_dict, bs_tuple_NoneType, bs_tuple_bool, bs_tuple_int, bs_tuple_str, bs_tuple_list, bs_tuple_tuple, bs_tuple_dict, bs_dict_NoneType, bs_dict_bool, bs_dict_int, bs_dict_str, bs_dict_list, bs_dict_tuple, bs_dict_dict] <;> simp
/-! ### the second half: clashes -/
def isIx : D → Nat → Bool
  | .int i, m => decide (0 ≤ i) && decide (i < (m : Int))
  | _, _ => false
theorem e_index {d : D} {m : Nat} (hd : simpD d) : (CC (k + 2)).fn 8 [d, .int m] S = some (.ok (.bl (isIx d m)) S) := by
  refine fn_eq (PM_fn rfl rfl rfl ?_)
  unfold b_is_index
  have hw := e_whole (k := k) (S := S) hd
  cases d with
  | non => simp only [PM_ret, PM_bind, PM_guard, PM_slot', PM_eC, PM_eOp, PM_eUn, PM_eT, PM_tV, PM_eAnd, PM_eOr, PM_tAnd, PM_tOr, PM_tNot, PM_eIf, PM_tIf, PM_tCmp, PM_tChn, PM_last, PM_more, PM_aNil, PM_aCons, PM_eTup, PM_eLst, PM_eCall, PM_eNew, PM_eDrop, PM_add, PM_sub, PM_mul, PM_fdiv, PM_mod, PM_pow, PM_neg, PM_lt, PM_le, PM_gt, PM_ge, PM_eqi, PM_nei, own_int, own_bl, own_tup, own_str, PM_isNon, PM_isBl, PM_isnot, PM_tbl, PM_tint, PM_tnon, PM_ttup, PM_lenT, PM_lenF, PM_int, PM_abs, PM_tupT, PM_lstF, PM_ixT, PM_eM, PM_iSeq, PM_seqT, PM_seqF, PM_rng1, PM_rng2, PM_enum, PZ_bind, PZ_nx, PZ_bk, PZ_ct, PZ_rt, SQ_nx, SQ_rt, SQ_ct, SQ_bk, TQ_nx, TQ_ct, TQ_bk, TQ_rt, PZ_seq, PZ_ret, PZ_drop, PZ_if, PZ_asg, PZ_one, PZ_par, PZ_allN, PZ_allC, PZ_tup, PZ_sub, PZ_fld, PZ_for, List.getElem?_cons_zero, List.getElem?_cons_succ, Option.some.injEq, exists_eq_left', exists_eq_left, List.set_cons_zero, List.set_cons_succ, setAll, List.length_cons, List.length_nil, List.map_cons, List.map_nil, Nat.reduceAdd, Nat.reduceSub, List.replicate, List.cons_append, List.nil_append, true_and, and_true, Bool.not_true, Bool.not_false, if_true, if_false, Bool.false_eq_true, D.int.injEq, D.isNon, D.isBl, Nat.reduceLeDiff, dropR_len, Nat.le_refl, ite_true, ite_false, reduceCtorEq, PM_of hw, isW]; rfl
  | bl b => simp only [PM_ret, PM_bind, PM_guard, PM_slot', PM_eC, PM_eOp, PM_eUn, PM_eT, PM_tV, PM_eAnd, PM_eOr, PM_tAnd, PM_tOr, PM_tNot, PM_eIf, PM_tIf, PM_tCmp, PM_tChn, PM_last, PM_more, PM_aNil, PM_aCons, PM_eTup, PM_eLst, PM_eCall, PM_eNew, PM_eDrop, PM_add, PM_sub, PM_mul, PM_fdiv, PM_mod, PM_pow, PM_neg, PM_lt, PM_le, PM_gt, PM_ge, PM_eqi, PM_nei, own_int, own_bl, own_tup, own_str, PM_isNon, PM_isBl, PM_isnot, PM_tbl, PM_tint, PM_tnon, PM_ttup, PM_lenT, PM_lenF, PM_int, PM_abs, PM_tupT, PM_lstF, PM_ixT, PM_eM, PM_iSeq, PM_seqT, PM_seqF, PM_rng1, PM_rng2, PM_enum, PZ_bind, PZ_nx, PZ_bk, PZ_ct, PZ_rt, SQ_nx, SQ_rt, SQ_ct, SQ_bk, TQ_nx, TQ_ct, TQ_bk, TQ_rt, PZ_seq, PZ_ret, PZ_drop, PZ_if, PZ_asg, PZ_one, PZ_par, PZ_allN, PZ_allC, PZ_tup, PZ_sub, PZ_fld, PZ_for, List.getElem?_cons_zero, List.getElem?_cons_succ, Option.some.injEq, exists_eq_left', exists_eq_left, List.set_cons_zero, List.set_cons_succ, setAll, List.length_cons, List.length_nil, List.map_cons, List.map_nil, Nat.reduceAdd, Nat.reduceSub, List.replicate, List.cons_append, List.nil_append, true_and, and_true, Bool.not_true, Bool.not_false, if_true, if_false, Bool.false_eq_true, D.int.injEq, D.isNon, D.isBl, Nat.reduceLeDiff, dropR_len, Nat.le_refl, ite_true, ite_false, reduceCtorEq, PM_of hw, isW]; rfl
  | int i =>
    simp only [PM_ret, PM_bind, PM_guard, PM_slot', PM_eC, PM_eOp, PM_eUn, PM_eT, PM_tV, PM_eAnd, PM_eOr, PM_tAnd, PM_tOr, PM_tNot, PM_eIf, PM_tIf, PM_tCmp, PM_tChn, PM_last, PM_more, PM_aNil, PM_aCons, PM_eTup, PM_eLst, PM_eCall, PM_eNew, PM_eDrop, PM_add, PM_sub, PM_mul, PM_fdiv, PM_mod, PM_pow, PM_neg, PM_lt, PM_le, PM_gt, PM_ge, PM_eqi, PM_nei, own_int, own_bl, own_tup, own_str, PM_isNon, PM_isBl, PM_isnot, PM_tbl, PM_tint, PM_tnon, PM_ttup, PM_lenT, PM_lenF, PM_int, PM_abs, PM_tupT, PM_lstF, PM_ixT, PM_eM, PM_iSeq, PM_seqT, PM_seqF, PM_rng1, PM_rng2, PM_enum, PZ_bind, PZ_nx, PZ_bk, PZ_ct, PZ_rt, SQ_nx, SQ_rt, SQ_ct, SQ_bk, TQ_nx, TQ_ct, TQ_bk, TQ_rt, PZ_seq, PZ_ret, PZ_drop, PZ_if, PZ_asg, PZ_one, PZ_par, PZ_allN, PZ_allC, PZ_tup, PZ_sub, PZ_fld, PZ_for, List.getElem?_cons_zero, List.getElem?_cons_succ, Option.some.injEq, exists_eq_left', exists_eq_left, List.set_cons_zero, List.set_cons_succ, setAll, List.length_cons, List.length_nil, List.map_cons, List.map_nil, Nat.reduceAdd, Nat.reduceSub, List.replicate, List.cons_append, List.nil_append, true_and, and_true, Bool.not_true, Bool.not_false, if_true, if_false, Bool.false_eq_true, D.int.injEq, D.isNon, D.isBl, Nat.reduceLeDiff, dropR_len, Nat.le_refl, ite_true, ite_false, reduceCtorEq, PM_of hw, isW]
    unfold isIx
    by_cases h1 : 0 ≤ i
    · simp only [PM_ret, PM_bind, PM_guard, PM_slot', PM_eC, PM_eOp, PM_eUn, PM_eT, PM_tV, PM_eAnd, PM_eOr, PM_tAnd, PM_tOr, PM_tNot, PM_eIf, PM_tIf, PM_tCmp, PM_tChn, PM_last, PM_more, PM_aNil, PM_aCons, PM_eTup, PM_eLst, PM_eCall, PM_eNew, PM_eDrop, PM_add, PM_sub, PM_mul, PM_fdiv, PM_mod, PM_pow, PM_neg, PM_lt, PM_le, PM_gt, PM_ge, PM_eqi, PM_nei, own_int, own_bl, own_tup, own_str, PM_isNon, PM_isBl, PM_isnot, PM_tbl, PM_tint, PM_tnon, PM_ttup, PM_lenT, PM_lenF, PM_int, PM_abs, PM_tupT, PM_lstF, PM_ixT, PM_eM, PM_iSeq, PM_seqT, PM_seqF, PM_rng1, PM_rng2, PM_enum, PZ_bind, PZ_nx, PZ_bk, PZ_ct, PZ_rt, SQ_nx, SQ_rt, SQ_ct, SQ_bk, TQ_nx, TQ_ct, TQ_bk, TQ_rt, PZ_seq, PZ_ret, PZ_drop, PZ_if, PZ_asg, PZ_one, PZ_par, PZ_allN, PZ_allC, PZ_tup, PZ_sub, PZ_fld, PZ_for, List.getElem?_cons_zero, List.getElem?_cons_succ, Option.some.injEq, exists_eq_left', exists_eq_left, List.set_cons_zero, List.set_cons_succ, setAll, List.length_cons, List.length_nil, List.map_cons, List.map_nil, Nat.reduceAdd, Nat.reduceSub, List.replicate, List.cons_append, List.nil_append, true_and, and_true, Bool.not_true, Bool.not_false, if_true, if_false, Bool.false_eq_true, D.int.injEq, D.isNon, D.isBl, Nat.reduceLeDiff, dropR_len, Nat.le_refl, ite_true, ite_false, reduceCtorEq, decide_eq_true h1, Bool.true_and]
    · simp only [PM_ret, PM_bind, PM_guard, PM_slot', PM_eC, PM_eOp, PM_eUn, PM_eT, PM_tV, PM_eAnd, PM_eOr, PM_tAnd, PM_tOr, PM_tNot, PM_eIf, PM_tIf, PM_tCmp, PM_tChn, PM_last, PM_more, PM_aNil, PM_aCons, PM_eTup, PM_eLst, PM_eCall, PM_eNew, PM_eDrop, PM_add, PM_sub, PM_mul, PM_fdiv, PM_mod, PM_pow, PM_neg, PM_lt, PM_le, PM_gt, PM_ge, PM_eqi, PM_nei, own_int, own_bl, own_tup, own_str, PM_isNon, PM_isBl, PM_isnot, PM_tbl, PM_tint, PM_tnon, PM_ttup, PM_lenT, PM_lenF, PM_int, PM_abs, PM_tupT, PM_lstF, PM_ixT, PM_eM, PM_iSeq, PM_seqT, PM_seqF, PM_rng1, PM_rng2, PM_enum, PZ_bind, PZ_nx, PZ_bk, PZ_ct, PZ_rt, SQ_nx, SQ_rt, SQ_ct, SQ_bk, TQ_nx, TQ_ct, TQ_bk, TQ_rt, PZ_seq, PZ_ret, PZ_drop, PZ_if, PZ_asg, PZ_one, PZ_par, PZ_allN, PZ_allC, PZ_tup, PZ_sub, PZ_fld, PZ_for, List.getElem?_cons_zero, List.getElem?_cons_succ, Option.some.injEq, exists_eq_left', exists_eq_left, List.set_cons_zero, List.set_cons_succ, setAll, List.length_cons, List.length_nil, List.map_cons, List.map_nil, Nat.reduceAdd, Nat.reduceSub, List.replicate, List.cons_append, List.nil_append, true_and, and_true, Bool.not_true, Bool.not_false, if_true, if_false, Bool.false_eq_true, D.int.injEq, D.isNon, D.isBl, Nat.reduceLeDiff, dropR_len, Nat.le_refl, ite_true, ite_false, reduceCtorEq, decide_eq_false h1, Bool.false_and]
  | _ => exact hd.elim
def clashAt (dm : List (Int × Nat)) (i j : Int) : Bool := match dm[i.toNat]?, dm[j.toNat]? with
  | some p, some q => clashB p q
  | _, _ => false
def ch (dm : List (Int × Nat)) : D → Bool
  | .obj 1 [.int i, .int j] => isIx (.int i) dm.length && (isIx (.int j) dm.length && (decide (i < j) && clashAt dm i j))
  | _ => false
theorem at_dm {dm : List (Int × Nat)} {i : Int} (h : isIx (.int i) dm.length = true) : ∃ p, dm[i.toNat]? = some p ∧ atI (dm.map dD) i = some (dD p) := by
  unfold isIx at h
  rw [Bool.and_eq_true, decide_eq_true_eq, decide_eq_true_eq] at h
  have hp : dm[i.toNat]? = some (dm[i.toNat]'(by omega)) := List.getElem?_eq_getElem (by omega)
  refine ⟨_, hp, ?_⟩
  have := atI_nat (xs := dm.map dD) (n := i.toNat) (by rw [List.getElem?_map, hp]; rfl)
  have e : ((i.toNat : Nat) : Int) = i := by omega
  rwa [e] at this
theorem e_ch {dm : List (Int × Nat)} {v : D} (h : ∀ p ∈ dm, okD p) (hl : dm.length ≤ 5) (hv : AskD v) : (CC (k + 4)).fn 21 [.tup (dm.map dD), v] S = some (.ok (.bl (ch dm v)) S) := by
  refine fn_eq (PM_fn rfl rfl rfl ?_)
  unfold b_clash_holds
  have en := e_need (k := k) (S := S) h (by omega)
  have hml : ((dm.map dD).length : Int) = (dm.length : Int) := by rw [List.length_map]
  simp only [PM_ret, PM_bind, PM_guard, PM_slot', PM_eC, PM_eOp, PM_eUn, PM_eT, PM_tV, PM_eAnd, PM_eOr, PM_tAnd, PM_tOr, PM_tNot, PM_eIf, PM_tIf, PM_tCmp, PM_tChn, PM_last, PM_more, PM_aNil, PM_aCons, PM_eTup, PM_eLst, PM_eCall, PM_eNew, PM_eDrop, PM_add, PM_sub, PM_mul, PM_fdiv, PM_mod, PM_pow, PM_neg, PM_lt, PM_le, PM_gt, PM_ge, PM_eqi, PM_nei, own_int, own_bl, own_tup, own_str, PM_isNon, PM_isBl, PM_isnot, PM_tbl, PM_tint, PM_tnon, PM_ttup, PM_lenT, PM_lenF, PM_int, PM_abs, PM_tupT, PM_lstF, PM_ixT, PM_eM, PM_iSeq, PM_seqT, PM_seqF, PM_rng1, PM_rng2, PM_enum, PZ_bind, PZ_nx, PZ_bk, PZ_ct, PZ_rt, SQ_nx, SQ_rt, SQ_ct, SQ_bk, TQ_nx, TQ_ct, TQ_bk, TQ_rt, PZ_seq, PZ_ret, PZ_drop, PZ_if, PZ_asg, PZ_one, PZ_par, PZ_allN, PZ_allC, PZ_tup, PZ_sub, PZ_fld, PZ_for, List.getElem?_cons_zero, List.getElem?_cons_succ, Option.some.injEq, exists_eq_left', exists_eq_left, List.set_cons_zero, List.set_cons_succ, setAll, List.length_cons, List.length_nil, List.map_cons, List.map_nil, Nat.reduceAdd, Nat.reduceSub, List.replicate, List.cons_append, List.nil_append, true_and, and_true, Bool.not_true, Bool.not_false, if_true, if_false, Bool.false_eq_true, D.int.injEq, D.isNon, D.isBl, Nat.reduceLeDiff, dropR_len, Nat.le_refl, ite_true, ite_false, reduceCtorEq, PM_of en]
  cases hv with
  | non => simp only [PM_ret, PM_bind, PM_guard, PM_slot', PM_eC, PM_eOp, PM_eUn, PM_eT, PM_tV, PM_eAnd, PM_eOr, PM_tAnd, PM_tOr, PM_tNot, PM_eIf, PM_tIf, PM_tCmp, PM_tChn, PM_last, PM_more, PM_aNil, PM_aCons, PM_eTup, PM_eLst, PM_eCall, PM_eNew, PM_eDrop, PM_add, PM_sub, PM_mul, PM_fdiv, PM_mod, PM_pow, PM_neg, PM_lt, PM_le, PM_gt, PM_ge, PM_eqi, PM_nei, own_int, own_bl, own_tup, own_str, PM_isNon, PM_isBl, PM_isnot, PM_tbl, PM_tint, PM_tnon, PM_ttup, PM_lenT, PM_lenF, PM_int, PM_abs, PM_tupT, PM_lstF, PM_ixT, PM_eM, PM_iSeq, PM_seqT, PM_seqF, PM_rng1, PM_rng2, PM_enum, PZ_bind, PZ_nx, PZ_bk, PZ_ct, PZ_rt, SQ_nx, SQ_rt, SQ_ct, SQ_bk, TQ_nx, TQ_ct, TQ_bk, TQ_rt, PZ_seq, PZ_ret, PZ_drop, PZ_if, PZ_asg, PZ_one, PZ_par, PZ_allN, PZ_allC, PZ_tup, PZ_sub, PZ_fld, PZ_for, List.getElem?_cons_zero, List.getElem?_cons_succ, Option.some.injEq, exists_eq_left', exists_eq_left, List.set_cons_zero, List.set_cons_succ, setAll, List.length_cons, List.length_nil, List.map_cons, List.map_nil, Nat.reduceAdd, Nat.reduceSub, List.replicate, List.cons_append, List.nil_append, true_and, and_true, Bool.not_true, Bool.not_false, if_true, if_false, Bool.false_eq_true, D.int.injEq, D.isNon, D.isBl, Nat.reduceLeDiff, dropR_len, Nat.le_refl, ite_true, ite_false, reduceCtorEq, isi_n c1]; rfl
  | int i => simp only [PM_ret, PM_bind, PM_guard, PM_slot', PM_eC, PM_eOp, PM_eUn, PM_eT, PM_tV, PM_eAnd, PM_eOr, PM_tAnd, PM_tOr, PM_tNot, PM_eIf, PM_tIf, PM_tCmp, PM_tChn, PM_last, PM_more, PM_aNil, PM_aCons, PM_eTup, PM_eLst, PM_eCall, PM_eNew, PM_eDrop, PM_add, PM_sub, PM_mul, PM_fdiv, PM_mod, PM_pow, PM_neg, PM_lt, PM_le, PM_gt, PM_ge, PM_eqi, PM_nei, own_int, own_bl, own_tup, own_str, PM_isNon, PM_isBl, PM_isnot, PM_tbl, PM_tint, PM_tnon, PM_ttup, PM_lenT, PM_lenF, PM_int, PM_abs, PM_tupT, PM_lstF, PM_ixT, PM_eM, PM_iSeq, PM_seqT, PM_seqF, PM_rng1, PM_rng2, PM_enum, PZ_bind, PZ_nx, PZ_bk, PZ_ct, PZ_rt, SQ_nx, SQ_rt, SQ_ct, SQ_bk, TQ_nx, TQ_ct, TQ_bk, TQ_rt, PZ_seq, PZ_ret, PZ_drop, PZ_if, PZ_asg, PZ_one, PZ_par, PZ_allN, PZ_allC, PZ_tup, PZ_sub, PZ_fld, PZ_for, List.getElem?_cons_zero, List.getElem?_cons_succ, Option.some.injEq, exists_eq_left', exists_eq_left, List.set_cons_zero, List.set_cons_succ, setAll, List.length_cons, List.length_nil, List.map_cons, List.map_nil, Nat.reduceAdd, Nat.reduceSub, List.replicate, List.cons_append, List.nil_append, true_and, and_true, Bool.not_true, Bool.not_false, if_true, if_false, Bool.false_eq_true, D.int.injEq, D.isNon, D.isBl, Nat.reduceLeDiff, dropR_len, Nat.le_refl, ite_true, ite_false, reduceCtorEq, isi_i c1]; rfl
  | ob c a b hc ha hb =>
    have hw1 := e_index (k := k + 1) (S := S) (m := dm.length) ha
    have hw2 := e_index (k := k + 1) (S := S) (m := dm.length) hb
    match c, hc with
    | 0, _ =>
      have e10 : ((0 : Nat) == 1) = false := rfl
      simp only [PM_ret, PM_bind, PM_guard, PM_slot', PM_eC, PM_eOp, PM_eUn, PM_eT, PM_tV, PM_eAnd, PM_eOr, PM_tAnd, PM_tOr, PM_tNot, PM_eIf, PM_tIf, PM_tCmp, PM_tChn, PM_last, PM_more, PM_aNil, PM_aCons, PM_eTup, PM_eLst, PM_eCall, PM_eNew, PM_eDrop, PM_add, PM_sub, PM_mul, PM_fdiv, PM_mod, PM_pow, PM_neg, PM_lt, PM_le, PM_gt, PM_ge, PM_eqi, PM_nei, own_int, own_bl, own_tup, own_str, PM_isNon, PM_isBl, PM_isnot, PM_tbl, PM_tint, PM_tnon, PM_ttup, PM_lenT, PM_lenF, PM_int, PM_abs, PM_tupT, PM_lstF, PM_ixT, PM_eM, PM_iSeq, PM_seqT, PM_seqF, PM_rng1, PM_rng2, PM_enum, PZ_bind, PZ_nx, PZ_bk, PZ_ct, PZ_rt, SQ_nx, SQ_rt, SQ_ct, SQ_bk, TQ_nx, TQ_ct, TQ_bk, TQ_rt, PZ_seq, PZ_ret, PZ_drop, PZ_if, PZ_asg, PZ_one, PZ_par, PZ_allN, PZ_allC, PZ_tup, PZ_sub, PZ_fld, PZ_for, List.getElem?_cons_zero, List.getElem?_cons_succ, Option.some.injEq, exists_eq_left', exists_eq_left, List.set_cons_zero, List.set_cons_succ, setAll, List.length_cons, List.length_nil, List.map_cons, List.map_nil, Nat.reduceAdd, Nat.reduceSub, List.replicate, List.cons_append, List.nil_append, true_and, and_true, Bool.not_true, Bool.not_false, if_true, if_false, Bool.false_eq_true, D.int.injEq, D.isNon, D.isBl, Nat.reduceLeDiff, dropR_len, Nat.le_refl, ite_true, ite_false, reduceCtorEq, PM_isiO (Γ := Γ) (i := 0) (j := 1) c0 c1, e10]; rfl
    | 1, _ =>
      have e00 : ((1 : Nat) == 1) = true := rfl
      simp only [PM_ret, PM_bind, PM_guard, PM_slot', PM_eC, PM_eOp, PM_eUn, PM_eT, PM_tV, PM_eAnd, PM_eOr, PM_tAnd, PM_tOr, PM_tNot, PM_eIf, PM_tIf, PM_tCmp, PM_tChn, PM_last, PM_more, PM_aNil, PM_aCons, PM_eTup, PM_eLst, PM_eCall, PM_eNew, PM_eDrop, PM_add, PM_sub, PM_mul, PM_fdiv, PM_mod, PM_pow, PM_neg, PM_lt, PM_le, PM_gt, PM_ge, PM_eqi, PM_nei, own_int, own_bl, own_tup, own_str, PM_isNon, PM_isBl, PM_isnot, PM_tbl, PM_tint, PM_tnon, PM_ttup, PM_lenT, PM_lenF, PM_int, PM_abs, PM_tupT, PM_lstF, PM_ixT, PM_eM, PM_iSeq, PM_seqT, PM_seqF, PM_rng1, PM_rng2, PM_enum, PZ_bind, PZ_nx, PZ_bk, PZ_ct, PZ_rt, SQ_nx, SQ_rt, SQ_ct, SQ_bk, TQ_nx, TQ_ct, TQ_bk, TQ_rt, PZ_seq, PZ_ret, PZ_drop, PZ_if, PZ_asg, PZ_one, PZ_par, PZ_allN, PZ_allC, PZ_tup, PZ_sub, PZ_fld, PZ_for, List.getElem?_cons_zero, List.getElem?_cons_succ, Option.some.injEq, exists_eq_left', exists_eq_left, List.set_cons_zero, List.set_cons_succ, setAll, List.length_cons, List.length_nil, List.map_cons, List.map_nil, Nat.reduceAdd, Nat.reduceSub, List.replicate, List.cons_append, List.nil_append, true_and, and_true, Bool.not_true, Bool.not_false, if_true, if_false, Bool.false_eq_true, D.int.injEq, D.isNon, D.isBl, Nat.reduceLeDiff, dropR_len, Nat.le_refl, ite_true, ite_false, reduceCtorEq, PM_isiO (Γ := Γ) (i := 1) (j := 1) c1 c1, e00, PM_fldO fl2, PM_fldO fl3, hml, PM_of hw1]
      cases h1 : isIx a dm.length with
      | false =>
        have hf : ch dm (.obj 1 [a, b]) = false := by
          cases a <;> cases b <;> first
            | rfl
            | (show (isIx (.int _) dm.length && _) = false; rw [h1]; rfl)
        simp only [PM_ret, PM_bind, PM_guard, PM_slot', PM_eC, PM_eOp, PM_eUn, PM_eT, PM_tV, PM_eAnd, PM_eOr, PM_tAnd, PM_tOr, PM_tNot, PM_eIf, PM_tIf, PM_tCmp, PM_tChn, PM_last, PM_more, PM_aNil, PM_aCons, PM_eTup, PM_eLst, PM_eCall, PM_eNew, PM_eDrop, PM_add, PM_sub, PM_mul, PM_fdiv, PM_mod, PM_pow, PM_neg, PM_lt, PM_le, PM_gt, PM_ge, PM_eqi, PM_nei, own_int, own_bl, own_tup, own_str, PM_isNon, PM_isBl, PM_isnot, PM_tbl, PM_tint, PM_tnon, PM_ttup, PM_lenT, PM_lenF, PM_int, PM_abs, PM_tupT, PM_lstF, PM_ixT, PM_eM, PM_iSeq, PM_seqT, PM_seqF, PM_rng1, PM_rng2, PM_enum, PZ_bind, PZ_nx, PZ_bk, PZ_ct, PZ_rt, SQ_nx, SQ_rt, SQ_ct, SQ_bk, TQ_nx, TQ_ct, TQ_bk, TQ_rt, PZ_seq, PZ_ret, PZ_drop, PZ_if, PZ_asg, PZ_one, PZ_par, PZ_allN, PZ_allC, PZ_tup, PZ_sub, PZ_fld, PZ_for, List.getElem?_cons_zero, List.getElem?_cons_succ, Option.some.injEq, exists_eq_left', exists_eq_left, List.set_cons_zero, List.set_cons_succ, setAll, List.length_cons, List.length_nil, List.map_cons, List.map_nil, Nat.reduceAdd, Nat.reduceSub, List.replicate, List.cons_append, List.nil_append, true_and, and_true, Bool.not_true, Bool.not_false, if_true, if_false, Bool.false_eq_true, D.int.injEq, D.isNon, D.isBl, Nat.reduceLeDiff, dropR_len, Nat.le_refl, ite_true, ite_false, reduceCtorEq]; exact congrArg D.bl hf.symm
      | true =>
        simp only [PM_ret, PM_bind, PM_guard, PM_slot', PM_eC, PM_eOp, PM_eUn, PM_eT, PM_tV, PM_eAnd, PM_eOr, PM_tAnd, PM_tOr, PM_tNot, PM_eIf, PM_tIf, PM_tCmp, PM_tChn, PM_last, PM_more, PM_aNil, PM_aCons, PM_eTup, PM_eLst, PM_eCall, PM_eNew, PM_eDrop, PM_add, PM_sub, PM_mul, PM_fdiv, PM_mod, PM_pow, PM_neg, PM_lt, PM_le, PM_gt, PM_ge, PM_eqi, PM_nei, own_int, own_bl, own_tup, own_str, PM_isNon, PM_isBl, PM_isnot, PM_tbl, PM_tint, PM_tnon, PM_ttup, PM_lenT, PM_lenF, PM_int, PM_abs, PM_tupT, PM_lstF, PM_ixT, PM_eM, PM_iSeq, PM_seqT, PM_seqF, PM_rng1, PM_rng2, PM_enum, PZ_bind, PZ_nx, PZ_bk, PZ_ct, PZ_rt, SQ_nx, SQ_rt, SQ_ct, SQ_bk, TQ_nx, TQ_ct, TQ_bk, TQ_rt, PZ_seq, PZ_ret, PZ_drop, PZ_if, PZ_asg, PZ_one, PZ_par, PZ_allN, PZ_allC, PZ_tup, PZ_sub, PZ_fld, PZ_for, List.getElem?_cons_zero, List.getElem?_cons_succ, Option.some.injEq, exists_eq_left', exists_eq_left, List.set_cons_zero, List.set_cons_succ, setAll, List.length_cons, List.length_nil, List.map_cons, List.map_nil, Nat.reduceAdd, Nat.reduceSub, List.replicate, List.cons_append, List.nil_append, true_and, and_true, Bool.not_true, Bool.not_false, if_true, if_false, Bool.false_eq_true, D.int.injEq, D.isNon, D.isBl, Nat.reduceLeDiff, dropR_len, Nat.le_refl, ite_true, ite_false, reduceCtorEq, PM_fldO fl3, hml, PM_of hw2]
        cases h2 : isIx b dm.length with
        | false =>
          have hf : ch dm (.obj 1 [a, b]) = false := by
            cases a <;> cases b <;> first
              | rfl
              | (show (isIx (.int _) dm.length && (isIx (.int _) dm.length && _)) = false; rw [h2, Bool.false_and, Bool.and_false])
          simp only [PM_ret, PM_bind, PM_guard, PM_slot', PM_eC, PM_eOp, PM_eUn, PM_eT, PM_tV, PM_eAnd, PM_eOr, PM_tAnd, PM_tOr, PM_tNot, PM_eIf, PM_tIf, PM_tCmp, PM_tChn, PM_last, PM_more, PM_aNil, PM_aCons, PM_eTup, PM_eLst, PM_eCall, PM_eNew, PM_eDrop, PM_add, PM_sub, PM_mul, PM_fdiv, PM_mod, PM_pow, PM_neg, PM_lt, PM_le, PM_gt, PM_ge, PM_eqi, PM_nei, own_int, own_bl, own_tup, own_str, PM_isNon, PM_isBl, PM_isnot, PM_tbl, PM_tint, PM_tnon, PM_ttup, PM_lenT, PM_lenF, PM_int, PM_abs, PM_tupT, PM_lstF, PM_ixT, PM_eM, PM_iSeq, PM_seqT, PM_seqF, PM_rng1, PM_rng2, PM_enum, PZ_bind, PZ_nx, PZ_bk, PZ_ct, PZ_rt, SQ_nx, SQ_rt, SQ_ct, SQ_bk, TQ_nx, TQ_ct, TQ_bk, TQ_rt, PZ_seq, PZ_ret, PZ_drop, PZ_if, PZ_asg, PZ_one, PZ_par, PZ_allN, PZ_allC, PZ_tup, PZ_sub, PZ_fld, PZ_for, List.getElem?_cons_zero, List.getElem?_cons_succ, Option.some.injEq, exists_eq_left', exists_eq_left, List.set_cons_zero, List.set_cons_succ, setAll, List.length_cons, List.length_nil, List.map_cons, List.map_nil, Nat.reduceAdd, Nat.reduceSub, List.replicate, List.cons_append, List.nil_append, true_and, and_true, Bool.not_true, Bool.not_false, if_true, if_false, Bool.false_eq_true, D.int.injEq, D.isNon, D.isBl, Nat.reduceLeDiff, dropR_len, Nat.le_refl, ite_true, ite_false, reduceCtorEq]; exact congrArg D.bl hf.symm
        | true =>
          cases a with
          | int i =>
            cases b with
            | int j =>
              obtain ⟨p, hp, hp2⟩ := at_dm h1
              obtain ⟨q, hq, hq2⟩ := at_dm h2
              have ec := e_clashB (k := k + 1) (S := S) (h p (mem_of_at hp)) (h q (mem_of_at hq))
              have hch : ch dm (.obj 1 [.int i, .int j]) = (decide (i < j) && clashB p q) := by
                show (isIx (.int i) dm.length && (isIx (.int j) dm.length && (decide (i < j) && clashAt dm i j))) = _
                rw [h1, h2, Bool.true_and, Bool.true_and]
                unfold clashAt
                rw [hp, hq]
              simp only [PM_ret, PM_bind, PM_guard, PM_slot', PM_eC, PM_eOp, PM_eUn, PM_eT, PM_tV, PM_eAnd, PM_eOr, PM_tAnd, PM_tOr, PM_tNot, PM_eIf, PM_tIf, PM_tCmp, PM_tChn, PM_last, PM_more, PM_aNil, PM_aCons, PM_eTup, PM_eLst, PM_eCall, PM_eNew, PM_eDrop, PM_add, PM_sub, PM_mul, PM_fdiv, PM_mod, PM_pow, PM_neg, PM_lt, PM_le, PM_gt, PM_ge, PM_eqi, PM_nei, own_int, own_bl, own_tup, own_str, PM_isNon, PM_isBl, PM_isnot, PM_tbl, PM_tint, PM_tnon, PM_ttup, PM_lenT, PM_lenF, PM_int, PM_abs, PM_tupT, PM_lstF, PM_ixT, PM_eM, PM_iSeq, PM_seqT, PM_seqF, PM_rng1, PM_rng2, PM_enum, PZ_bind, PZ_nx, PZ_bk, PZ_ct, PZ_rt, SQ_nx, SQ_rt, SQ_ct, SQ_bk, TQ_nx, TQ_ct, TQ_bk, TQ_rt, PZ_seq, PZ_ret, PZ_drop, PZ_if, PZ_asg, PZ_one, PZ_par, PZ_allN, PZ_allC, PZ_tup, PZ_sub, PZ_fld, PZ_for, List.getElem?_cons_zero, List.getElem?_cons_succ, Option.some.injEq, exists_eq_left', exists_eq_left, List.set_cons_zero, List.set_cons_succ, setAll, List.length_cons, List.length_nil, List.map_cons, List.map_nil, Nat.reduceAdd, Nat.reduceSub, List.replicate, List.cons_append, List.nil_append, true_and, and_true, Bool.not_true, Bool.not_false, if_true, if_false, Bool.false_eq_true, D.int.injEq, D.isNon, D.isBl, Nat.reduceLeDiff, dropR_len, Nat.le_refl, ite_true, ite_false, reduceCtorEq, PM_fldO fl2, PM_fldO fl3]
              by_cases hij : i < j
              · simp only [PM_ret, PM_bind, PM_guard, PM_slot', PM_eC, PM_eOp, PM_eUn, PM_eT, PM_tV, PM_eAnd, PM_eOr, PM_tAnd, PM_tOr, PM_tNot, PM_eIf, PM_tIf, PM_tCmp, PM_tChn, PM_last, PM_more, PM_aNil, PM_aCons, PM_eTup, PM_eLst, PM_eCall, PM_eNew, PM_eDrop, PM_add, PM_sub, PM_mul, PM_fdiv, PM_mod, PM_pow, PM_neg, PM_lt, PM_le, PM_gt, PM_ge, PM_eqi, PM_nei, own_int, own_bl, own_tup, own_str, PM_isNon, PM_isBl, PM_isnot, PM_tbl, PM_tint, PM_tnon, PM_ttup, PM_lenT, PM_lenF, PM_int, PM_abs, PM_tupT, PM_lstF, PM_ixT, PM_eM, PM_iSeq, PM_seqT, PM_seqF, PM_rng1, PM_rng2, PM_enum, PZ_bind, PZ_nx, PZ_bk, PZ_ct, PZ_rt, SQ_nx, SQ_rt, SQ_ct, SQ_bk, TQ_nx, TQ_ct, TQ_bk, TQ_rt, PZ_seq, PZ_ret, PZ_drop, PZ_if, PZ_asg, PZ_one, PZ_par, PZ_allN, PZ_allC, PZ_tup, PZ_sub, PZ_fld, PZ_for, List.getElem?_cons_zero, List.getElem?_cons_succ, Option.some.injEq, exists_eq_left', exists_eq_left, List.set_cons_zero, List.set_cons_succ, setAll, List.length_cons, List.length_nil, List.map_cons, List.map_nil, Nat.reduceAdd, Nat.reduceSub, List.replicate, List.cons_append, List.nil_append, true_and, and_true, Bool.not_true, Bool.not_false, if_true, if_false, Bool.false_eq_true, D.int.injEq, D.isNon, D.isBl, Nat.reduceLeDiff, dropR_len, Nat.le_refl, ite_true, ite_false, reduceCtorEq, decide_eq_true hij, PM_fldO fl2, PM_fldO fl3, hp2, hq2, PM_of ec, hch, Bool.true_and]
              · simp only [PM_ret, PM_bind, PM_guard, PM_slot', PM_eC, PM_eOp, PM_eUn, PM_eT, PM_tV, PM_eAnd, PM_eOr, PM_tAnd, PM_tOr, PM_tNot, PM_eIf, PM_tIf, PM_tCmp, PM_tChn, PM_last, PM_more, PM_aNil, PM_aCons, PM_eTup, PM_eLst, PM_eCall, PM_eNew, PM_eDrop, PM_add, PM_sub, PM_mul, PM_fdiv, PM_mod, PM_pow, PM_neg, PM_lt, PM_le, PM_gt, PM_ge, PM_eqi, PM_nei, own_int, own_bl, own_tup, own_str, PM_isNon, PM_isBl, PM_isnot, PM_tbl, PM_tint, PM_tnon, PM_ttup, PM_lenT, PM_lenF, PM_int, PM_abs, PM_tupT, PM_lstF, PM_ixT, PM_eM, PM_iSeq, PM_seqT, PM_seqF, PM_rng1, PM_rng2, PM_enum, PZ_bind, PZ_nx, PZ_bk, PZ_ct, PZ_rt, SQ_nx, SQ_rt, SQ_ct, SQ_bk, TQ_nx, TQ_ct, TQ_bk, TQ_rt, PZ_seq, PZ_ret, PZ_drop, PZ_if, PZ_asg, PZ_one, PZ_par, PZ_allN, PZ_allC, PZ_tup, PZ_sub, PZ_fld, PZ_for, List.getElem?_cons_zero, List.getElem?_cons_succ, Option.some.injEq, exists_eq_left', exists_eq_left, List.set_cons_zero, List.set_cons_succ, setAll, List.length_cons, List.length_nil, List.map_cons, List.map_nil, Nat.reduceAdd, Nat.reduceSub, List.replicate, List.cons_append, List.nil_append, true_and, and_true, Bool.not_true, Bool.not_false, if_true, if_false, Bool.false_eq_true, D.int.injEq, D.isNon, D.isBl, Nat.reduceLeDiff, dropR_len, Nat.le_refl, ite_true, ite_false, reduceCtorEq, decide_eq_false hij, hch, Bool.false_and]
            | _ => cases h2
          | _ => cases h1
end


section
variable {k : Nat} {S : Store} {Q : D → Store → Prop} {B : Bool → Store → Prop}
def okE (p : Int × Nat) : Prop := -50000 ≤ p.1 ∧ p.1 ≤ 50000 ∧ 1 ≤ p.2 ∧ p.2 ≤ 24
theorem toPs_dm : ∀ {dm : List (Int × Nat)}, ∃ ps, toPs (dm.map dD) = some ps
  | [] => ⟨_, rfl⟩
  | p :: dm => by
    obtain ⟨ps, h⟩ := toPs_dm (dm := dm)
    refine ⟨.tuple [.int p.1, .int p.2] :: ps, ?_⟩
    rw [List.map_cons]
    unfold toPs
    have : toP (dD p) = some (.tuple [.int p.1, .int p.2]) := rfl
    rw [this, h]
/-- the pen at 0 and a list of demands at r -/
def InvD (r : Nat) (dm : List (Int × Nat)) (S : Store) : Prop := PenAt 0 1 S ∧ S[r]? = some (.lst (dm.map dD)) ∧ ∀ p ∈ dm, okE p
theorem InvD.drawn {r : Nat} {dm : List (Int × Nat)} {S' : Store} (h : InvD r dm S) (hr : r ≠ 0) (hd : Drawn 0 1 S S') : InvD r dm S' := ⟨hd.1, by rw [hd.other hr]; exact h.2.1, h.2.2⟩
theorem e_demands (h : PenAt 0 1 S) : PM ((CC (k + 2)).fn 28 [.ref 0]) S fun d S' => (∃ dm : List (Int × Nat), d = .tup (dm.map dD) ∧ (∀ p ∈ dm, okD p) ∧ dm.length ≤ 5) ∧ PenAt 0 1 S' := by
  refine PM_fn rfl rfl rfl ?_
  have fin : ∀ (dm : List (Int × Nat)) (S' : Store), (∀ p ∈ dm, okD p) → dm.length ≤ 5 → PenAt 0 1 S' → ((∃ dm' : List (Int × Nat), D.tup (dm.map dD) = .tup (dm'.map dD) ∧ (∀ p ∈ dm', okD p) ∧ dm'.length ≤ 5) ∧ PenAt 0 1 (dropR S (.tup (dm.map dD)) S')) := fun dm S' h1 h2 h3 => ⟨⟨dm, rfl, h1, h2⟩, h3.drop h⟩
  have big0 : 0 ≤ sizeLine := Nat.zero_le _
  unfold b__law_demands
  rw [PZ_seq]
  generalize hK : SQ _ _ = K
  simp only [PM_ret, PM_bind, PM_guard, PM_slot', PM_eC, PM_eOp, PM_eUn, PM_eT, PM_tV, PM_eAnd, PM_eOr, PM_tAnd, PM_tOr, PM_tNot, PM_eIf, PM_tIf, PM_tCmp, PM_tChn, PM_last, PM_more, PM_aNil, PM_aCons, PM_eTup, PM_eLst, PM_eCall, PM_eNew, PM_eDrop, PM_add, PM_sub, PM_mul, PM_fdiv, PM_mod, PM_pow, PM_neg, PM_lt, PM_le, PM_gt, PM_ge, PM_eqi, PM_nei, own_int, own_bl, own_tup, own_str, PM_isNon, PM_isBl, PM_isnot, PM_tbl, PM_tint, PM_tnon, PM_ttup, PM_lenT, PM_lenF, PM_int, PM_abs, PM_tupT, PM_lstF, PM_ixT, PM_eM, PM_iSeq, PM_seqT, PM_seqF, PM_rng1, PM_rng2, PM_enum, PZ_bind, PZ_nx, PZ_bk, PZ_ct, PZ_rt, SQ_nx, SQ_rt, SQ_ct, SQ_bk, TQ_nx, TQ_ct, TQ_bk, TQ_rt, PZ_seq, PZ_ret, PZ_drop, PZ_if, PZ_asg, PZ_one, PZ_par, PZ_allN, PZ_allC, PZ_tup, PZ_sub, PZ_fld, PZ_for, List.getElem?_cons_zero, List.getElem?_cons_succ, Option.some.injEq, exists_eq_left', exists_eq_left, List.set_cons_zero, List.set_cons_succ, setAll, List.length_cons, List.length_nil, List.map_cons, List.map_nil, Nat.reduceAdd, Nat.reduceSub, List.replicate, List.cons_append, List.nil_append, true_and, and_true, Bool.not_true, Bool.not_false, if_true, if_false, Bool.false_eq_true, D.int.injEq, D.isNon, D.isBl, Nat.reduceLeDiff, dropR_len, Nat.le_refl, ite_true, ite_false, reduceCtorEq]
  refine (e_draw (k := k) h (many := 3) (by decide) (by decide)).imp ?_
  rintro d S1 ⟨⟨way, rfl, w1, w2⟩, d1⟩
  refine (e_draw (k := k) d1.1 (many := 2000) (by decide) (by decide)).imp ?_
  rintro d S2 ⟨⟨nb, rfl, n1, n2⟩, d2⟩
  simp only [PM_ret, PM_bind, PM_guard, PM_slot', PM_eC, PM_eOp, PM_eUn, PM_eT, PM_tV, PM_eAnd, PM_eOr, PM_tAnd, PM_tOr, PM_tNot, PM_eIf, PM_tIf, PM_tCmp, PM_tChn, PM_last, PM_more, PM_aNil, PM_aCons, PM_eTup, PM_eLst, PM_eCall, PM_eNew, PM_eDrop, PM_add, PM_sub, PM_mul, PM_fdiv, PM_mod, PM_pow, PM_neg, PM_lt, PM_le, PM_gt, PM_ge, PM_eqi, PM_nei, own_int, own_bl, own_tup, own_str, PM_isNon, PM_isBl, PM_isnot, PM_tbl, PM_tint, PM_tnon, PM_ttup, PM_lenT, PM_lenF, PM_int, PM_abs, PM_tupT, PM_lstF, PM_ixT, PM_eM, PM_iSeq, PM_seqT, PM_seqF, PM_rng1, PM_rng2, PM_enum, PZ_bind, PZ_nx, PZ_bk, PZ_ct, PZ_rt, SQ_nx, SQ_rt, SQ_ct, SQ_bk, TQ_nx, TQ_ct, TQ_bk, TQ_rt, PZ_seq, PZ_ret, PZ_drop, PZ_if, PZ_asg, PZ_one, PZ_par, PZ_allN, PZ_allC, PZ_tup, PZ_sub, PZ_fld, PZ_for, List.getElem?_cons_zero, List.getElem?_cons_succ, Option.some.injEq, exists_eq_left', exists_eq_left, List.set_cons_zero, List.set_cons_succ, setAll, List.length_cons, List.length_nil, List.map_cons, List.map_nil, Nat.reduceAdd, Nat.reduceSub, List.replicate, List.cons_append, List.nil_append, true_and, and_true, Bool.not_true, Bool.not_false, if_true, if_false, Bool.false_eq_true, D.int.injEq, D.isNon, D.isBl, Nat.reduceLeDiff, dropR_len, Nat.le_refl, ite_true, ite_false, reduceCtorEq, big0]
  subst hK
  rw [SQ_nx, PZ_seq]
  have hr2 : S2.length ≠ 0 := by have := d2.1.lt; omega
  have hr3 : S2.length ≠ 1 := by have := d2.1.lt; omega
  have i0 : InvD S2.length [] (S2 ++ [.lst []]) := ⟨d2.1.ap, get_last, fun _ z => by cases z⟩
  generalize hr : S2.length = r at i0 hr2 hr3
  generalize S2 ++ [Cell.lst []] = S3 at i0
  generalize hK : SQ _ _ = K
  simp only [PM_ret, PM_bind, PM_guard, PM_slot', PM_eC, PM_eOp, PM_eUn, PM_eT, PM_tV, PM_eAnd, PM_eOr, PM_tAnd, PM_tOr, PM_tNot, PM_eIf, PM_tIf, PM_tCmp, PM_tChn, PM_last, PM_more, PM_aNil, PM_aCons, PM_eTup, PM_eLst, PM_eCall, PM_eNew, PM_eDrop, PM_add, PM_sub, PM_mul, PM_fdiv, PM_mod, PM_pow, PM_neg, PM_lt, PM_le, PM_gt, PM_ge, PM_eqi, PM_nei, own_int, own_bl, own_tup, own_str, PM_isNon, PM_isBl, PM_isnot, PM_tbl, PM_tint, PM_tnon, PM_ttup, PM_lenT, PM_lenF, PM_int, PM_abs, PM_tupT, PM_lstF, PM_ixT, PM_eM, PM_iSeq, PM_seqT, PM_seqF, PM_rng1, PM_rng2, PM_enum, PZ_bind, PZ_nx, PZ_bk, PZ_ct, PZ_rt, SQ_nx, SQ_rt, SQ_ct, SQ_bk, TQ_nx, TQ_ct, TQ_bk, TQ_rt, PZ_seq, PZ_ret, PZ_drop, PZ_if, PZ_asg, PZ_one, PZ_par, PZ_allN, PZ_allC, PZ_tup, PZ_sub, PZ_fld, PZ_for, List.getElem?_cons_zero, List.getElem?_cons_succ, Option.some.injEq, exists_eq_left', exists_eq_left, List.set_cons_zero, List.set_cons_succ, setAll, List.length_cons, List.length_nil, List.map_cons, List.map_nil, Nat.reduceAdd, Nat.reduceSub, List.replicate, List.cons_append, List.nil_append, true_and, and_true, Bool.not_true, Bool.not_false, if_true, if_false, Bool.false_eq_true, D.int.injEq, D.isNon, D.isBl, Nat.reduceLeDiff, dropR_len, Nat.le_refl, ite_true, ite_false, reduceCtorEq]
  refine (e_draw (k := k) i0.1 (many := 5) (by decide) (by decide)).imp ?_
  rintro d S4 ⟨⟨laps, rfl, l1, l2⟩, d4⟩
  refine ⟨laps, rfl, ⟨by omega, by omega⟩, ?_⟩
  have i4 := i0.drawn hr2 d4
  have hnum : -1000 ≤ nb - 1000 ∧ nb - 1000 ≤ 1000 := by omega
  generalize nb - 1000 = num at hnum
  refine PZ_go (fun j ρ S' => ∃ (dm : List (Int × Nat)) (a b c : Option D), dm.length = j ∧ InvD r dm S' ∧ ρ = [some (.ref 0), some (.int way), some (.int num), some (.ref r), a, b, c]) ⟨[], _, _, _, rfl, i4, rfl⟩ ?_ ?_
  · rintro j d ρ S' hj ⟨dm, a, b, c, hdl, hI, rfl⟩
    obtain ⟨rfl, hlt⟩ := rng_at hj
    refine ⟨trivial, _, rfl, ?_⟩
    simp only [PM_ret, PM_bind, PM_guard, PM_slot', PM_eC, PM_eOp, PM_eUn, PM_eT, PM_tV, PM_eAnd, PM_eOr, PM_tAnd, PM_tOr, PM_tNot, PM_eIf, PM_tIf, PM_tCmp, PM_tChn, PM_last, PM_more, PM_aNil, PM_aCons, PM_eTup, PM_eLst, PM_eCall, PM_eNew, PM_eDrop, PM_add, PM_sub, PM_mul, PM_fdiv, PM_mod, PM_pow, PM_neg, PM_lt, PM_le, PM_gt, PM_ge, PM_eqi, PM_nei, own_int, own_bl, own_tup, own_str, PM_isNon, PM_isBl, PM_isnot, PM_tbl, PM_tint, PM_tnon, PM_ttup, PM_lenT, PM_lenF, PM_int, PM_abs, PM_tupT, PM_lstF, PM_ixT, PM_eM, PM_iSeq, PM_seqT, PM_seqF, PM_rng1, PM_rng2, PM_enum, PZ_bind, PZ_nx, PZ_bk, PZ_ct, PZ_rt, SQ_nx, SQ_rt, SQ_ct, SQ_bk, TQ_nx, TQ_ct, TQ_bk, TQ_rt, PZ_seq, PZ_ret, PZ_drop, PZ_if, PZ_asg, PZ_one, PZ_par, PZ_allN, PZ_allC, PZ_tup, PZ_sub, PZ_fld, PZ_for, List.getElem?_cons_zero, List.getElem?_cons_succ, Option.some.injEq, exists_eq_left', exists_eq_left, List.set_cons_zero, List.set_cons_succ, setAll, List.length_cons, List.length_nil, List.map_cons, List.map_nil, Nat.reduceAdd, Nat.reduceSub, List.replicate, List.cons_append, List.nil_append, true_and, and_true, Bool.not_true, Bool.not_false, if_true, if_false, Bool.false_eq_true, D.int.injEq, D.isNon, D.isBl, Nat.reduceLeDiff, dropR_len, Nat.le_refl, ite_true, ite_false, reduceCtorEq]
    refine (e_draw (k := k) hI.1 (many := 24) (by decide) (by decide)).imp ?_
    rintro d T1 ⟨⟨bb, rfl, b1, b2⟩, e1⟩
    have I1 := hI.drawn hr2 e1
    simp only [PM_ret, PM_bind, PM_guard, PM_slot', PM_eC, PM_eOp, PM_eUn, PM_eT, PM_tV, PM_eAnd, PM_eOr, PM_tAnd, PM_tOr, PM_tNot, PM_eIf, PM_tIf, PM_tCmp, PM_tChn, PM_last, PM_more, PM_aNil, PM_aCons, PM_eTup, PM_eLst, PM_eCall, PM_eNew, PM_eDrop, PM_add, PM_sub, PM_mul, PM_fdiv, PM_mod, PM_pow, PM_neg, PM_lt, PM_le, PM_gt, PM_ge, PM_eqi, PM_nei, own_int, own_bl, own_tup, own_str, PM_isNon, PM_isBl, PM_isnot, PM_tbl, PM_tint, PM_tnon, PM_ttup, PM_lenT, PM_lenF, PM_int, PM_abs, PM_tupT, PM_lstF, PM_ixT, PM_eM, PM_iSeq, PM_seqT, PM_seqF, PM_rng1, PM_rng2, PM_enum, PZ_bind, PZ_nx, PZ_bk, PZ_ct, PZ_rt, SQ_nx, SQ_rt, SQ_ct, SQ_bk, TQ_nx, TQ_ct, TQ_bk, TQ_rt, PZ_seq, PZ_ret, PZ_drop, PZ_if, PZ_asg, PZ_one, PZ_par, PZ_allN, PZ_allC, PZ_tup, PZ_sub, PZ_fld, PZ_for, List.getElem?_cons_zero, List.getElem?_cons_succ, Option.some.injEq, exists_eq_left', exists_eq_left, List.set_cons_zero, List.set_cons_succ, setAll, List.length_cons, List.length_nil, List.map_cons, List.map_nil, Nat.reduceAdd, Nat.reduceSub, List.replicate, List.cons_append, List.nil_append, true_and, and_true, Bool.not_true, Bool.not_false, if_true, if_false, Bool.false_eq_true, D.int.injEq, D.isNon, D.isBl, Nat.reduceLeDiff, dropR_len, Nat.le_refl, ite_true, ite_false, reduceCtorEq, kindL I1.2.1]
    have push : ∀ (v : Int) (T : Store), -50000 ≤ v → v ≤ 50000 → InvD r dm T → PM (mAppend (.ref r) [.tup [.int v, .int (1 + bb)]]) T fun _ S' => ∃ (dm : List (Int × Nat)) (a1 b1 c1 : Option D), dm.length = j + 1 ∧ InvD r dm S' ∧ [some (.ref 0), some (.int way), some (.int num), some (.ref r), some (.int (0 + (j : Int))), some (.int (1 + bb)), c] = [some (.ref 0), some (.int way), some (.int num), some (.ref r), a1, b1, c1] := by
      intro v T v1 v2 hT
      rw [PM_append hT.2.1 (by rw [List.length_map]; have := sizeLine_big; omega)]
      refine ⟨dm ++ [(v, (1 + bb).toNat)], _, _, c, by simp [hdl], ⟨hT.1.set hr2 hr3, ?_, ?_⟩, rfl⟩
      · rw [List.getElem?_set_self (List.getElem?_eq_some_iff.mp hT.2.1).1, List.map_append]
        have e : (((1 + bb).toNat : Nat) : Int) = 1 + bb := by omega
        have : dD (v, (1 + bb).toNat) = .tup [.int v, .int (1 + bb)] := by unfold dD; rw [e]
        rw [List.map_cons, this]; rfl
      · intro p hp
        rcases List.mem_append.mp hp with hp | hp
        · exact hT.2.2 p hp
        · rw [List.mem_singleton.mp hp]
          exact ⟨v1, v2, by show 1 ≤ (1 + bb).toNat; omega, by show (1 + bb).toNat ≤ 24; omega⟩
    by_cases hw : 0 < way
    · simp only [PM_ret, PM_bind, PM_guard, PM_slot', PM_eC, PM_eOp, PM_eUn, PM_eT, PM_tV, PM_eAnd, PM_eOr, PM_tAnd, PM_tOr, PM_tNot, PM_eIf, PM_tIf, PM_tCmp, PM_tChn, PM_last, PM_more, PM_aNil, PM_aCons, PM_eTup, PM_eLst, PM_eCall, PM_eNew, PM_eDrop, PM_add, PM_sub, PM_mul, PM_fdiv, PM_mod, PM_pow, PM_neg, PM_lt, PM_le, PM_gt, PM_ge, PM_eqi, PM_nei, own_int, own_bl, own_tup, own_str, PM_isNon, PM_isBl, PM_isnot, PM_tbl, PM_tint, PM_tnon, PM_ttup, PM_lenT, PM_lenF, PM_int, PM_abs, PM_tupT, PM_lstF, PM_ixT, PM_eM, PM_iSeq, PM_seqT, PM_seqF, PM_rng1, PM_rng2, PM_enum, PZ_bind, PZ_nx, PZ_bk, PZ_ct, PZ_rt, SQ_nx, SQ_rt, SQ_ct, SQ_bk, TQ_nx, TQ_ct, TQ_bk, TQ_rt, PZ_seq, PZ_ret, PZ_drop, PZ_if, PZ_asg, PZ_one, PZ_par, PZ_allN, PZ_allC, PZ_tup, PZ_sub, PZ_fld, PZ_for, List.getElem?_cons_zero, List.getElem?_cons_succ, Option.some.injEq, exists_eq_left', exists_eq_left, List.set_cons_zero, List.set_cons_succ, setAll, List.length_cons, List.length_nil, List.map_cons, List.map_nil, Nat.reduceAdd, Nat.reduceSub, List.replicate, List.cons_append, List.nil_append, true_and, and_true, Bool.not_true, Bool.not_false, if_true, if_false, Bool.false_eq_true, D.int.injEq, D.isNon, D.isBl, Nat.reduceLeDiff, dropR_len, Nat.le_refl, ite_true, ite_false, reduceCtorEq, decide_eq_true hw]
      refine (e_draw (k := k) I1.1 (many := 7) (by decide) (by decide)).imp ?_
      rintro d T2 ⟨⟨cc, rfl, c1, c2⟩, e2⟩
      have I2 := I1.drawn hr2 e2
      have m1 : mulOk (1 + bb) (cc - 3) := mulOk_r (by omega) (by omega)
      have hb : -72 ≤ (1 + bb) * (cc - 3) ∧ (1 + bb) * (cc - 3) ≤ 72 := by
        have h3 : cc - 3 = -3 ∨ cc - 3 = -2 ∨ cc - 3 = -1 ∨ cc - 3 = 0 ∨ cc - 3 = 1 ∨ cc - 3 = 2 ∨ cc - 3 = 3 := by omega
        rcases h3 with h3 | h3 | h3 | h3 | h3 | h3 | h3 <;> rw [h3] <;> omega
      simp only [PM_ret, PM_bind, PM_guard, PM_slot', PM_eC, PM_eOp, PM_eUn, PM_eT, PM_tV, PM_eAnd, PM_eOr, PM_tAnd, PM_tOr, PM_tNot, PM_eIf, PM_tIf, PM_tCmp, PM_tChn, PM_last, PM_more, PM_aNil, PM_aCons, PM_eTup, PM_eLst, PM_eCall, PM_eNew, PM_eDrop, PM_add, PM_sub, PM_mul, PM_fdiv, PM_mod, PM_pow, PM_neg, PM_lt, PM_le, PM_gt, PM_ge, PM_eqi, PM_nei, own_int, own_bl, own_tup, own_str, PM_isNon, PM_isBl, PM_isnot, PM_tbl, PM_tint, PM_tnon, PM_ttup, PM_lenT, PM_lenF, PM_int, PM_abs, PM_tupT, PM_lstF, PM_ixT, PM_eM, PM_iSeq, PM_seqT, PM_seqF, PM_rng1, PM_rng2, PM_enum, PZ_bind, PZ_nx, PZ_bk, PZ_ct, PZ_rt, SQ_nx, SQ_rt, SQ_ct, SQ_bk, TQ_nx, TQ_ct, TQ_bk, TQ_rt, PZ_seq, PZ_ret, PZ_drop, PZ_if, PZ_asg, PZ_one, PZ_par, PZ_allN, PZ_allC, PZ_tup, PZ_sub, PZ_fld, PZ_for, List.getElem?_cons_zero, List.getElem?_cons_succ, Option.some.injEq, exists_eq_left', exists_eq_left, List.set_cons_zero, List.set_cons_succ, setAll, List.length_cons, List.length_nil, List.map_cons, List.map_nil, Nat.reduceAdd, Nat.reduceSub, List.replicate, List.cons_append, List.nil_append, true_and, and_true, Bool.not_true, Bool.not_false, if_true, if_false, Bool.false_eq_true, D.int.injEq, D.isNon, D.isBl, Nat.reduceLeDiff, dropR_len, Nat.le_refl, ite_true, ite_false, reduceCtorEq, m1, big2]
      exact push (num + (1 + bb) * (cc - 3)) _ (by omega) (by omega) I2
    · simp only [PM_ret, PM_bind, PM_guard, PM_slot', PM_eC, PM_eOp, PM_eUn, PM_eT, PM_tV, PM_eAnd, PM_eOr, PM_tAnd, PM_tOr, PM_tNot, PM_eIf, PM_tIf, PM_tCmp, PM_tChn, PM_last, PM_more, PM_aNil, PM_aCons, PM_eTup, PM_eLst, PM_eCall, PM_eNew, PM_eDrop, PM_add, PM_sub, PM_mul, PM_fdiv, PM_mod, PM_pow, PM_neg, PM_lt, PM_le, PM_gt, PM_ge, PM_eqi, PM_nei, own_int, own_bl, own_tup, own_str, PM_isNon, PM_isBl, PM_isnot, PM_tbl, PM_tint, PM_tnon, PM_ttup, PM_lenT, PM_lenF, PM_int, PM_abs, PM_tupT, PM_lstF, PM_ixT, PM_eM, PM_iSeq, PM_seqT, PM_seqF, PM_rng1, PM_rng2, PM_enum, PZ_bind, PZ_nx, PZ_bk, PZ_ct, PZ_rt, SQ_nx, SQ_rt, SQ_ct, SQ_bk, TQ_nx, TQ_ct, TQ_bk, TQ_rt, PZ_seq, PZ_ret, PZ_drop, PZ_if, PZ_asg, PZ_one, PZ_par, PZ_allN, PZ_allC, PZ_tup, PZ_sub, PZ_fld, PZ_for, List.getElem?_cons_zero, List.getElem?_cons_succ, Option.some.injEq, exists_eq_left', exists_eq_left, List.set_cons_zero, List.set_cons_succ, setAll, List.length_cons, List.length_nil, List.map_cons, List.map_nil, Nat.reduceAdd, Nat.reduceSub, List.replicate, List.cons_append, List.nil_append, true_and, and_true, Bool.not_true, Bool.not_false, if_true, if_false, Bool.false_eq_true, D.int.injEq, D.isNon, D.isBl, Nat.reduceLeDiff, dropR_len, Nat.le_refl, ite_true, ite_false, reduceCtorEq, decide_eq_false hw]
      refine (e_draw (k := k) I1.1 (many := 61) (by decide) (by decide)).imp ?_
      rintro d T2 ⟨⟨cc, rfl, c1, c2⟩, e2⟩
      have I2 := I1.drawn hr2 e2
      simp only [PM_ret, PM_bind, PM_guard, PM_slot', PM_eC, PM_eOp, PM_eUn, PM_eT, PM_tV, PM_eAnd, PM_eOr, PM_tAnd, PM_tOr, PM_tNot, PM_eIf, PM_tIf, PM_tCmp, PM_tChn, PM_last, PM_more, PM_aNil, PM_aCons, PM_eTup, PM_eLst, PM_eCall, PM_eNew, PM_eDrop, PM_add, PM_sub, PM_mul, PM_fdiv, PM_mod, PM_pow, PM_neg, PM_lt, PM_le, PM_gt, PM_ge, PM_eqi, PM_nei, own_int, own_bl, own_tup, own_str, PM_isNon, PM_isBl, PM_isnot, PM_tbl, PM_tint, PM_tnon, PM_ttup, PM_lenT, PM_lenF, PM_int, PM_abs, PM_tupT, PM_lstF, PM_ixT, PM_eM, PM_iSeq, PM_seqT, PM_seqF, PM_rng1, PM_rng2, PM_enum, PZ_bind, PZ_nx, PZ_bk, PZ_ct, PZ_rt, SQ_nx, SQ_rt, SQ_ct, SQ_bk, TQ_nx, TQ_ct, TQ_bk, TQ_rt, PZ_seq, PZ_ret, PZ_drop, PZ_if, PZ_asg, PZ_one, PZ_par, PZ_allN, PZ_allC, PZ_tup, PZ_sub, PZ_fld, PZ_for, List.getElem?_cons_zero, List.getElem?_cons_succ, Option.some.injEq, exists_eq_left', exists_eq_left, List.set_cons_zero, List.set_cons_succ, setAll, List.length_cons, List.length_nil, List.map_cons, List.map_nil, Nat.reduceAdd, Nat.reduceSub, List.replicate, List.cons_append, List.nil_append, true_and, and_true, Bool.not_true, Bool.not_false, if_true, if_false, Bool.false_eq_true, D.int.injEq, D.isNon, D.isBl, Nat.reduceLeDiff, dropR_len, Nat.le_refl, ite_true, ite_false, reduceCtorEq, big2]
      exact push (cc - 30) _ (by omega) (by omega) I2
  · rintro ρ S' ⟨dm, a, b, c, hdl, hI, rfl⟩
    refine ⟨trivial, ?_⟩
    have hdl5 : dm.length ≤ 5 := by
      rw [hdl]
      unfold rngL
      rw [List.length_map, List.length_range]
      omega
    have hokD : ∀ p ∈ dm, okD p := fun p hp => by
      obtain ⟨q1, q2, q3, q4⟩ := hI.2.2 p hp
      exact ⟨by omega, by omega, q3, q4⟩
    subst hK
    rw [SQ_nx, PZ_seq, PZ_if]
    have I9 : PenAt 0 1 (S' ++ [.lst []]) := hI.1.ap
    have hL9 : (S' ++ [Cell.lst []])[r]? = some (.lst (dm.map dD)) := by rw [List.getElem?_append_left (List.getElem?_eq_some_iff.mp hI.2.1).1]; exact hI.2.1
    obtain ⟨ps, hps⟩ := toPs_dm (dm := dm)
    by_cases hw : way = 2
    · simp only [PM_ret, PM_bind, PM_guard, PM_slot', PM_eC, PM_eOp, PM_eUn, PM_eT, PM_tV, PM_eAnd, PM_eOr, PM_tAnd, PM_tOr, PM_tNot, PM_eIf, PM_tIf, PM_tCmp, PM_tChn, PM_last, PM_more, PM_aNil, PM_aCons, PM_eTup, PM_eLst, PM_eCall, PM_eNew, PM_eDrop, PM_add, PM_sub, PM_mul, PM_fdiv, PM_mod, PM_pow, PM_neg, PM_lt, PM_le, PM_gt, PM_ge, PM_eqi, PM_nei, own_int, own_bl, own_tup, own_str, PM_isNon, PM_isBl, PM_isnot, PM_tbl, PM_tint, PM_tnon, PM_ttup, PM_lenT, PM_lenF, PM_int, PM_abs, PM_tupT, PM_lstF, PM_ixT, PM_eM, PM_iSeq, PM_seqT, PM_seqF, PM_rng1, PM_rng2, PM_enum, PZ_bind, PZ_nx, PZ_bk, PZ_ct, PZ_rt, SQ_nx, SQ_rt, SQ_ct, SQ_bk, TQ_nx, TQ_ct, TQ_bk, TQ_rt, PZ_seq, PZ_ret, PZ_drop, PZ_if, PZ_asg, PZ_one, PZ_par, PZ_allN, PZ_allC, PZ_tup, PZ_sub, PZ_fld, PZ_for, List.getElem?_cons_zero, List.getElem?_cons_succ, Option.some.injEq, exists_eq_left', exists_eq_left, List.set_cons_zero, List.set_cons_succ, setAll, List.length_cons, List.length_nil, List.map_cons, List.map_nil, Nat.reduceAdd, Nat.reduceSub, List.replicate, List.cons_append, List.nil_append, true_and, and_true, Bool.not_true, Bool.not_false, if_true, if_false, Bool.false_eq_true, D.int.injEq, D.isNon, D.isBl, Nat.reduceLeDiff, dropR_len, Nat.le_refl, ite_true, ite_false, reduceCtorEq, decide_eq_true hw, PM_ownL hL9, PM_cNe, PM_eqNil hL9 get_last hps, big0]
      cases hdm : dm with
      | nil =>
        simp only [List.isEmpty_nil, PM_ret, PM_bind, PM_guard, PM_slot', PM_eC, PM_eOp, PM_eUn, PM_eT, PM_tV, PM_eAnd, PM_eOr, PM_tAnd, PM_tOr, PM_tNot, PM_eIf, PM_tIf, PM_tCmp, PM_tChn, PM_last, PM_more, PM_aNil, PM_aCons, PM_eTup, PM_eLst, PM_eCall, PM_eNew, PM_eDrop, PM_add, PM_sub, PM_mul, PM_fdiv, PM_mod, PM_pow, PM_neg, PM_lt, PM_le, PM_gt, PM_ge, PM_eqi, PM_nei, own_int, own_bl, own_tup, own_str, PM_isNon, PM_isBl, PM_isnot, PM_tbl, PM_tint, PM_tnon, PM_ttup, PM_lenT, PM_lenF, PM_int, PM_abs, PM_tupT, PM_lstF, PM_ixT, PM_eM, PM_iSeq, PM_seqT, PM_seqF, PM_rng1, PM_rng2, PM_enum, PZ_bind, PZ_nx, PZ_bk, PZ_ct, PZ_rt, SQ_nx, SQ_rt, SQ_ct, SQ_bk, TQ_nx, TQ_ct, TQ_bk, TQ_rt, PZ_seq, PZ_ret, PZ_drop, PZ_if, PZ_asg, PZ_one, PZ_par, PZ_allN, PZ_allC, PZ_tup, PZ_sub, PZ_fld, PZ_for, List.getElem?_cons_zero, List.getElem?_cons_succ, Option.some.injEq, exists_eq_left', exists_eq_left, List.set_cons_zero, List.set_cons_succ, setAll, List.length_cons, List.length_nil, List.map_cons, List.map_nil, Nat.reduceAdd, Nat.reduceSub, List.replicate, List.cons_append, List.nil_append, true_and, and_true, Bool.not_true, Bool.not_false, if_true, if_false, Bool.false_eq_true, D.int.injEq, D.isNon, D.isBl, Nat.reduceLeDiff, dropR_len, Nat.le_refl, ite_true, ite_false, reduceCtorEq, PM_tupL (show S'[r]? = some (.lst []) by rw [hI.2.1, hdm]; rfl)]
        subst hdm
        simp only [List.map_nil, List.isEmpty_nil, PM_ret, PM_bind, PM_guard, PM_slot', PM_eC, PM_eOp, PM_eUn, PM_eT, PM_tV, PM_eAnd, PM_eOr, PM_tAnd, PM_tOr, PM_tNot, PM_eIf, PM_tIf, PM_tCmp, PM_tChn, PM_last, PM_more, PM_aNil, PM_aCons, PM_eTup, PM_eLst, PM_eCall, PM_eNew, PM_eDrop, PM_add, PM_sub, PM_mul, PM_fdiv, PM_mod, PM_pow, PM_neg, PM_lt, PM_le, PM_gt, PM_ge, PM_eqi, PM_nei, own_int, own_bl, own_tup, own_str, PM_isNon, PM_isBl, PM_isnot, PM_tbl, PM_tint, PM_tnon, PM_ttup, PM_lenT, PM_lenF, PM_int, PM_abs, PM_tupT, PM_lstF, PM_ixT, PM_eM, PM_iSeq, PM_seqT, PM_seqF, PM_rng1, PM_rng2, PM_enum, PZ_bind, PZ_nx, PZ_bk, PZ_ct, PZ_rt, SQ_nx, SQ_rt, SQ_ct, SQ_bk, TQ_nx, TQ_ct, TQ_bk, TQ_rt, PZ_seq, PZ_ret, PZ_drop, PZ_if, PZ_asg, PZ_one, PZ_par, PZ_allN, PZ_allC, PZ_tup, PZ_sub, PZ_fld, PZ_for, List.getElem?_cons_zero, List.getElem?_cons_succ, Option.some.injEq, exists_eq_left', exists_eq_left, List.set_cons_zero, List.set_cons_succ, setAll, List.length_cons, List.length_nil, List.map_cons, List.map_nil, Nat.reduceAdd, Nat.reduceSub, List.replicate, List.cons_append, List.nil_append, true_and, and_true, Bool.not_true, Bool.not_false, if_true, if_false, Bool.false_eq_true, D.int.injEq, D.isNon, D.isBl, Nat.reduceLeDiff, dropR_len, Nat.le_refl, ite_true, ite_false, reduceCtorEq, PM_tupL hL9]
        exact fin [] _ (fun _ z => by cases z) (by simp) I9
      | cons p0 dm0 =>
        rw [← hdm]
        have hne : (dm.map dD).isEmpty = false := by rw [hdm]; rfl
        have hlen : 1 ≤ dm.length := by rw [hdm]; simp
        simp only [hne, PM_ret, PM_bind, PM_guard, PM_slot', PM_eC, PM_eOp, PM_eUn, PM_eT, PM_tV, PM_eAnd, PM_eOr, PM_tAnd, PM_tOr, PM_tNot, PM_eIf, PM_tIf, PM_tCmp, PM_tChn, PM_last, PM_more, PM_aNil, PM_aCons, PM_eTup, PM_eLst, PM_eCall, PM_eNew, PM_eDrop, PM_add, PM_sub, PM_mul, PM_fdiv, PM_mod, PM_pow, PM_neg, PM_lt, PM_le, PM_gt, PM_ge, PM_eqi, PM_nei, own_int, own_bl, own_tup, own_str, PM_isNon, PM_isBl, PM_isnot, PM_tbl, PM_tint, PM_tnon, PM_ttup, PM_lenT, PM_lenF, PM_int, PM_abs, PM_tupT, PM_lstF, PM_ixT, PM_eM, PM_iSeq, PM_seqT, PM_seqF, PM_rng1, PM_rng2, PM_enum, PZ_bind, PZ_nx, PZ_bk, PZ_ct, PZ_rt, SQ_nx, SQ_rt, SQ_ct, SQ_bk, TQ_nx, TQ_ct, TQ_bk, TQ_rt, PZ_seq, PZ_ret, PZ_drop, PZ_if, PZ_asg, PZ_one, PZ_par, PZ_allN, PZ_allC, PZ_tup, PZ_sub, PZ_fld, PZ_for, List.getElem?_cons_zero, List.getElem?_cons_succ, Option.some.injEq, exists_eq_left', exists_eq_left, List.set_cons_zero, List.set_cons_succ, setAll, List.length_cons, List.length_nil, List.map_cons, List.map_nil, Nat.reduceAdd, Nat.reduceSub, List.replicate, List.cons_append, List.nil_append, true_and, and_true, Bool.not_true, Bool.not_false, if_true, if_false, Bool.false_eq_true, D.int.injEq, D.isNon, D.isBl, Nat.reduceLeDiff, dropR_len, Nat.le_refl, ite_true, ite_false, reduceCtorEq, PM_lenL hL9]
        refine (e_draw (k := k) I9 (many := ((dm.map dD).length : Int)) (by rw [List.length_map]; omega) (by rw [List.length_map]; omega)).imp ?_
        rintro d T1 ⟨⟨ix, rfl, x1, x2⟩, e1⟩
        rw [List.length_map] at x2
        have hT1 : T1[r]? = some (.lst (dm.map dD)) := by rw [e1.other hr2]; exact hL9
        obtain ⟨p, hp, hp2⟩ := at_dm (dm := dm) (i := ix) (by show (decide (0 ≤ ix) && decide (ix < (dm.length : Int))) = true; rw [decide_eq_true x1, decide_eq_true x2]; rfl)
        have hix : ixN (dm.map dD).length ix = some ix.toNat := by
          unfold ixN
          rw [if_pos x1, if_pos (by rw [List.length_map]; exact x2)]
        have hpp : dD p = .tup [.int p.1, .int p.2] := rfl
        simp only [PM_ret, PM_bind, PM_guard, PM_slot', PM_eC, PM_eOp, PM_eUn, PM_eT, PM_tV, PM_eAnd, PM_eOr, PM_tAnd, PM_tOr, PM_tNot, PM_eIf, PM_tIf, PM_tCmp, PM_tChn, PM_last, PM_more, PM_aNil, PM_aCons, PM_eTup, PM_eLst, PM_eCall, PM_eNew, PM_eDrop, PM_add, PM_sub, PM_mul, PM_fdiv, PM_mod, PM_pow, PM_neg, PM_lt, PM_le, PM_gt, PM_ge, PM_eqi, PM_nei, own_int, own_bl, own_tup, own_str, PM_isNon, PM_isBl, PM_isnot, PM_tbl, PM_tint, PM_tnon, PM_ttup, PM_lenT, PM_lenF, PM_int, PM_abs, PM_tupT, PM_lstF, PM_ixT, PM_eM, PM_iSeq, PM_seqT, PM_seqF, PM_rng1, PM_rng2, PM_enum, PZ_bind, PZ_nx, PZ_bk, PZ_ct, PZ_rt, SQ_nx, SQ_rt, SQ_ct, SQ_bk, TQ_nx, TQ_ct, TQ_bk, TQ_rt, PZ_seq, PZ_ret, PZ_drop, PZ_if, PZ_asg, PZ_one, PZ_par, PZ_allN, PZ_allC, PZ_tup, PZ_sub, PZ_fld, PZ_for, List.getElem?_cons_zero, List.getElem?_cons_succ, Option.some.injEq, exists_eq_left', exists_eq_left, List.set_cons_zero, List.set_cons_succ, setAll, List.length_cons, List.length_nil, List.map_cons, List.map_nil, Nat.reduceAdd, Nat.reduceSub, List.replicate, List.cons_append, List.nil_append, true_and, and_true, Bool.not_true, Bool.not_false, if_true, if_false, Bool.false_eq_true, D.int.injEq, D.isNon, D.isBl, Nat.reduceLeDiff, dropR_len, Nat.le_refl, ite_true, ite_false, reduceCtorEq, PM_ixL hT1, hp2, hpp, at0, at1, big2, PM_putL hT1 hix]
        have e2 : (dm.map dD).set ix.toNat (.tup [.int (p.1 + 1), .int p.2]) = (dm.set ix.toNat (p.1 + 1, p.2)).map dD := by
          rw [List.map_set]; rfl
        rw [e2]
        have hT2 : (T1.set r (.lst ((dm.set ix.toNat (p.1 + 1, p.2)).map dD)))[r]? = some (.lst ((dm.set ix.toNat (p.1 + 1, p.2)).map dD)) := by
          rw [List.getElem?_set_self (List.getElem?_eq_some_iff.mp hT1).1]
        simp only [PM_tupL hT2]
        refine fin _ _ (fun z hz => ?_) (by rw [List.length_set]; exact hdl5) (e1.1.set hr2 hr3)
        rcases List.mem_or_eq_of_mem_set hz with hz | rfl
        · exact hokD z hz
        · obtain ⟨q1, q2, q3, q4⟩ := hI.2.2 p (mem_of_at hp)
          exact ⟨by show -100000 ≤ p.1 + 1; omega, by show p.1 + 1 ≤ 100000; omega, q3, q4⟩
    · simp only [PM_ret, PM_bind, PM_guard, PM_slot', PM_eC, PM_eOp, PM_eUn, PM_eT, PM_tV, PM_eAnd, PM_eOr, PM_tAnd, PM_tOr, PM_tNot, PM_eIf, PM_tIf, PM_tCmp, PM_tChn, PM_last, PM_more, PM_aNil, PM_aCons, PM_eTup, PM_eLst, PM_eCall, PM_eNew, PM_eDrop, PM_add, PM_sub, PM_mul, PM_fdiv, PM_mod, PM_pow, PM_neg, PM_lt, PM_le, PM_gt, PM_ge, PM_eqi, PM_nei, own_int, own_bl, own_tup, own_str, PM_isNon, PM_isBl, PM_isnot, PM_tbl, PM_tint, PM_tnon, PM_ttup, PM_lenT, PM_lenF, PM_int, PM_abs, PM_tupT, PM_lstF, PM_ixT, PM_eM, PM_iSeq, PM_seqT, PM_seqF, PM_rng1, PM_rng2, PM_enum, PZ_bind, PZ_nx, PZ_bk, PZ_ct, PZ_rt, SQ_nx, SQ_rt, SQ_ct, SQ_bk, TQ_nx, TQ_ct, TQ_bk, TQ_rt, PZ_seq, PZ_ret, PZ_drop, PZ_if, PZ_asg, PZ_one, PZ_par, PZ_allN, PZ_allC, PZ_tup, PZ_sub, PZ_fld, PZ_for, List.getElem?_cons_zero, List.getElem?_cons_succ, Option.some.injEq, exists_eq_left', exists_eq_left, List.set_cons_zero, List.set_cons_succ, setAll, List.length_cons, List.length_nil, List.map_cons, List.map_nil, Nat.reduceAdd, Nat.reduceSub, List.replicate, List.cons_append, List.nil_append, true_and, and_true, Bool.not_true, Bool.not_false, if_true, if_false, Bool.false_eq_true, D.int.injEq, D.isNon, D.isBl, Nat.reduceLeDiff, dropR_len, Nat.le_refl, ite_true, ite_false, reduceCtorEq, decide_eq_false hw, PM_tupL hI.2.1]
      exact fin dm _ hokD hdl5 hI.1
end


section
variable {k : Nat} {S : Store} {ρ : En} {Q : D → Store → Prop} {B : Bool → Store → Prop}
theorem PM_eDct {ps : List (Ev × Ev)} : PM (eDct ps ρ) S Q ↔ PM (dPairs ps ρ) (S ++ [.dct []]) fun l S' => PM (fillD S.length l) S' Q :=
  (show PM (eDct ps ρ) S Q ↔ PM (M.bind (dPairs ps ρ) (fillD S.length)) (S ++ [.dct []]) Q from Iff.rfl).trans PM_bind
theorem PM_pairs {kx vx : Ev} {r : List (Ev × Ev)} {J : List (Key × D) → Store → Prop} : PM (dPairs ((kx, vx) :: r) ρ) S J ↔ PM (kx ρ) S fun x S1 => PM (vx ρ) S1 fun y S2 => ∃ kk, keyD x = some kk ∧ PM (dPairs r ρ) S2 fun l S3 => J ((kk, y) :: l) S3 := by
  conv => lhs; unfold dPairs
  rw [PM_bind]
  simp only [PM_bind]
  constructor <;> intro h <;> refine h.imp fun x S1 h => h.imp fun y S2 h => ?_
  · cases e : keyD x with
    | none => rw [e] at h; exact (PM_stuck.mp h).elim
    | some kk =>
      rw [e] at h
      refine ⟨kk, rfl, ?_⟩
      have h : PM (M.bind (dPairs r ρ) fun l => .ret ((kk, y) :: l)) S2 J := h
      rw [PM_bind] at h
      exact h.imp fun l S3 q => PM_ret.mp q
  · obtain ⟨kk, e, h⟩ := h
    rw [e]
    show PM (M.bind (dPairs r ρ) fun l => .ret ((kk, y) :: l)) S2 J
    rw [PM_bind]
    exact h.imp fun l S3 q => PM_ret.mpr q
theorem PM_pairs0 {J : List (Key × D) → Store → Prop} : PM (dPairs [] ρ) S J ↔ J [] S := PM_ret
theorem keyS {z : Str} : keyD (.str z) = some (.inr z) := rfl
theorem PM_fill {r : Nat} {l : List (Key × D)} (h : S[r]? = some (.dct [])) (hl : l.length ≤ 15) : PM (fillD r l) S Q ↔ Q (.ref r) (S.set r (.dct (mergeD [] l))) := PM_of (by unfold fillD; rw [h]; simp only [hl, if_true])
theorem e_pen {ns : List Int} : PM ((CC (k + 1)).fn 22 [.flst (ns.map .int)]) [] fun d S' => d = .ref 0 ∧ PenAt 0 1 S' := by
  refine PM_fn rfl rfl rfl ?_
  unfold b__law_pen
  simp only [PM_ret, PM_bind, PM_guard, PM_slot', PM_eC, PM_eOp, PM_eUn, PM_eT, PM_tV, PM_eAnd, PM_eOr, PM_tAnd, PM_tOr, PM_tNot, PM_eIf, PM_tIf, PM_tCmp, PM_tChn, PM_last, PM_more, PM_aNil, PM_aCons, PM_eTup, PM_eLst, PM_eCall, PM_eNew, PM_eDrop, PM_add, PM_sub, PM_mul, PM_fdiv, PM_mod, PM_pow, PM_neg, PM_lt, PM_le, PM_gt, PM_ge, PM_eqi, PM_nei, own_int, own_bl, own_tup, own_str, PM_isNon, PM_isBl, PM_isnot, PM_tbl, PM_tint, PM_tnon, PM_ttup, PM_lenT, PM_lenF, PM_int, PM_abs, PM_tupT, PM_lstF, PM_ixT, PM_eM, PM_iSeq, PM_seqT, PM_seqF, PM_rng1, PM_rng2, PM_enum, PZ_bind, PZ_nx, PZ_bk, PZ_ct, PZ_rt, SQ_nx, SQ_rt, SQ_ct, SQ_bk, TQ_nx, TQ_ct, TQ_bk, TQ_rt, PZ_seq, PZ_ret, PZ_drop, PZ_if, PZ_asg, PZ_one, PZ_par, PZ_allN, PZ_allC, PZ_tup, PZ_sub, PZ_fld, PZ_for, List.getElem?_cons_zero, List.getElem?_cons_succ, Option.some.injEq, exists_eq_left', exists_eq_left, List.set_cons_zero, List.set_cons_succ, setAll, List.length_cons, List.length_nil, List.map_cons, List.map_nil, Nat.reduceAdd, Nat.reduceSub, List.replicate, List.cons_append, List.nil_append, true_and, and_true, Bool.not_true, Bool.not_false, if_true, if_false, Bool.false_eq_true, D.int.injEq, D.isNon, D.isBl, Nat.reduceLeDiff, dropR_len, Nat.le_refl, ite_true, ite_false, reduceCtorEq]
  refine PZ_go (fun j ρ S' => S' = [] ∧ ∃ (f : Int) (c : Option D), ρ = [some (.flst (ns.map .int)), some (.int f), c]) ⟨rfl, 0, _, rfl⟩ ?_ ?_
  · rintro j d ρ S' hj ⟨rfl, f, c, rfl⟩
    rw [List.getElem?_map] at hj
    cases e : ns[j]? with
    | none => rw [e] at hj; cases hj
    | some z =>
      rw [e] at hj; cases hj
      refine ⟨trivial, _, rfl, ?_⟩
      have m1 : mulOk f 47 := mulOk_r (by decide) (by decide)
      have z1 : ¬ (1000000007 : Int) = 0 := by decide
      simp only [PM_ret, PM_bind, PM_guard, PM_slot', PM_eC, PM_eOp, PM_eUn, PM_eT, PM_tV, PM_eAnd, PM_eOr, PM_tAnd, PM_tOr, PM_tNot, PM_eIf, PM_tIf, PM_tCmp, PM_tChn, PM_last, PM_more, PM_aNil, PM_aCons, PM_eTup, PM_eLst, PM_eCall, PM_eNew, PM_eDrop, PM_add, PM_sub, PM_mul, PM_fdiv, PM_mod, PM_pow, PM_neg, PM_lt, PM_le, PM_gt, PM_ge, PM_eqi, PM_nei, own_int, own_bl, own_tup, own_str, PM_isNon, PM_isBl, PM_isnot, PM_tbl, PM_tint, PM_tnon, PM_ttup, PM_lenT, PM_lenF, PM_int, PM_abs, PM_tupT, PM_lstF, PM_ixT, PM_eM, PM_iSeq, PM_seqT, PM_seqF, PM_rng1, PM_rng2, PM_enum, PZ_bind, PZ_nx, PZ_bk, PZ_ct, PZ_rt, SQ_nx, SQ_rt, SQ_ct, SQ_bk, TQ_nx, TQ_ct, TQ_bk, TQ_rt, PZ_seq, PZ_ret, PZ_drop, PZ_if, PZ_asg, PZ_one, PZ_par, PZ_allN, PZ_allC, PZ_tup, PZ_sub, PZ_fld, PZ_for, List.getElem?_cons_zero, List.getElem?_cons_succ, Option.some.injEq, exists_eq_left', exists_eq_left, List.set_cons_zero, List.set_cons_succ, setAll, List.length_cons, List.length_nil, List.map_cons, List.map_nil, Nat.reduceAdd, Nat.reduceSub, List.replicate, List.cons_append, List.nil_append, true_and, and_true, Bool.not_true, Bool.not_false, if_true, if_false, Bool.false_eq_true, D.int.injEq, D.isNon, D.isBl, Nat.reduceLeDiff, dropR_len, Nat.le_refl, ite_true, ite_false, reduceCtorEq, m1, z1, ne_eq, not_false_eq_true]
      exact ⟨_, _, rfl⟩
  · rintro ρ S' ⟨rfl, f, c, rfl⟩
    refine ⟨trivial, ?_⟩
    have hl : ∀ l : List (Key × D), l.length = 5 → l.length ≤ 15 := fun l h => by omega
    simp only [PM_ret, PM_bind, PM_guard, PM_slot', PM_eC, PM_eOp, PM_eUn, PM_eT, PM_tV, PM_eAnd, PM_eOr, PM_tAnd, PM_tOr, PM_tNot, PM_eIf, PM_tIf, PM_tCmp, PM_tChn, PM_last, PM_more, PM_aNil, PM_aCons, PM_eTup, PM_eLst, PM_eCall, PM_eNew, PM_eDrop, PM_add, PM_sub, PM_mul, PM_fdiv, PM_mod, PM_pow, PM_neg, PM_lt, PM_le, PM_gt, PM_ge, PM_eqi, PM_nei, own_int, own_bl, own_tup, own_str, PM_isNon, PM_isBl, PM_isnot, PM_tbl, PM_tint, PM_tnon, PM_ttup, PM_lenT, PM_lenF, PM_int, PM_abs, PM_tupT, PM_lstF, PM_ixT, PM_eM, PM_iSeq, PM_seqT, PM_seqF, PM_rng1, PM_rng2, PM_enum, PZ_bind, PZ_nx, PZ_bk, PZ_ct, PZ_rt, SQ_nx, SQ_rt, SQ_ct, SQ_bk, TQ_nx, TQ_ct, TQ_bk, TQ_rt, PZ_seq, PZ_ret, PZ_drop, PZ_if, PZ_asg, PZ_one, PZ_par, PZ_allN, PZ_allC, PZ_tup, PZ_sub, PZ_fld, PZ_for, List.getElem?_cons_zero, List.getElem?_cons_succ, Option.some.injEq, exists_eq_left', exists_eq_left, List.set_cons_zero, List.set_cons_succ, setAll, List.length_cons, List.length_nil, List.map_cons, List.map_nil, Nat.reduceAdd, Nat.reduceSub, List.replicate, List.cons_append, List.nil_append, true_and, and_true, Bool.not_true, Bool.not_false, if_true, if_false, Bool.false_eq_true, D.int.injEq, D.isNon, D.isBl, Nat.reduceLeDiff, dropR_len, Nat.le_refl, ite_true, ite_false, reduceCtorEq, PM_eDct, PM_pairs, PM_pairs0, keyS]
    rw [PM_fill rfl (by show (5 : Nat) ≤ 15; decide)]
    have e : ∀ X, dropR [] (.ref 0) X = X := fun X => by
      unfold dropR
      split
      · rfl
      · rw [if_neg (fun z => by have := z.2; simp [belowD] at this)]
    show D.ref 0 = .ref 0 ∧ PenAt 0 1 (dropR [] (.ref 0) _)
    rw [e]
    exact ⟨rfl, 0, 0, 0, f, ns, by decide, rfl, rfl, by omega, by omega⟩
/-- number -/
theorem x_number {t : D} {by' : Nat} (ht : toldD t) (h1 : 1 ≤ by') (h2 : by' < 2 ^ 24) (hp : PenAt 0 1 S) (s1 : ρ[1]? = some (some (.ref 0))) (s4 : ρ[4]? = some (some t)) (s5 : ρ[5]? = some (some (.int by'))) :
    PM (eIf (tV (eOp (fIsi Γ) (eSlot 4) (eC (.cls 0)))) (eUn (oFld Γ "number") (eSlot 4)) (eCall (CC (k + 1)) 23 2 (aCons (eSlot 1) (aCons (eSlot 5) aNil))) ρ) S fun d S' => ∃ z, d = .int z ∧ 0 ≤ z ∧ z < 2 ^ 40 ∧ PenAt 0 1 S' := by
  rcases ht with ⟨n, b, rfl, n1, n2⟩ | ⟨i, j, rfl⟩
  · have e00 : ((0 : Nat) == 0) = true := rfl
    simp only [PM_ret, PM_bind, PM_guard, PM_slot', PM_eC, PM_eOp, PM_eUn, PM_eT, PM_tV, PM_eAnd, PM_eOr, PM_tAnd, PM_tOr, PM_tNot, PM_eIf, PM_tIf, PM_tCmp, PM_tChn, PM_last, PM_more, PM_aNil, PM_aCons, PM_eTup, PM_eLst, PM_eCall, PM_eNew, PM_eDrop, PM_add, PM_sub, PM_mul, PM_fdiv, PM_mod, PM_pow, PM_neg, PM_lt, PM_le, PM_gt, PM_ge, PM_eqi, PM_nei, own_int, own_bl, own_tup, own_str, PM_isNon, PM_isBl, PM_isnot, PM_tbl, PM_tint, PM_tnon, PM_ttup, PM_lenT, PM_lenF, PM_int, PM_abs, PM_tupT, PM_lstF, PM_ixT, PM_eM, PM_iSeq, PM_seqT, PM_seqF, PM_rng1, PM_rng2, PM_enum, PZ_bind, PZ_nx, PZ_bk, PZ_ct, PZ_rt, SQ_nx, SQ_rt, SQ_ct, SQ_bk, TQ_nx, TQ_ct, TQ_bk, TQ_rt, PZ_seq, PZ_ret, PZ_drop, PZ_if, PZ_asg, PZ_one, PZ_par, PZ_allN, PZ_allC, PZ_tup, PZ_sub, PZ_fld, PZ_for, List.getElem?_cons_zero, List.getElem?_cons_succ, Option.some.injEq, exists_eq_left', exists_eq_left, List.set_cons_zero, List.set_cons_succ, setAll, List.length_cons, List.length_nil, List.map_cons, List.map_nil, Nat.reduceAdd, Nat.reduceSub, List.replicate, List.cons_append, List.nil_append, true_and, and_true, Bool.not_true, Bool.not_false, if_true, if_false, Bool.false_eq_true, D.int.injEq, D.isNon, D.isBl, Nat.reduceLeDiff, dropR_len, Nat.le_refl, ite_true, ite_false, reduceCtorEq, s4, PM_isiO (Γ := Γ) (i := 0) (j := 0) c0 c0, e00, PM_fldO fl0]
    exact ⟨n1, n2, hp⟩
  · have e10 : ((1 : Nat) == 0) = false := rfl
    simp only [PM_ret, PM_bind, PM_guard, PM_slot', PM_eC, PM_eOp, PM_eUn, PM_eT, PM_tV, PM_eAnd, PM_eOr, PM_tAnd, PM_tOr, PM_tNot, PM_eIf, PM_tIf, PM_tCmp, PM_tChn, PM_last, PM_more, PM_aNil, PM_aCons, PM_eTup, PM_eLst, PM_eCall, PM_eNew, PM_eDrop, PM_add, PM_sub, PM_mul, PM_fdiv, PM_mod, PM_pow, PM_neg, PM_lt, PM_le, PM_gt, PM_ge, PM_eqi, PM_nei, own_int, own_bl, own_tup, own_str, PM_isNon, PM_isBl, PM_isnot, PM_tbl, PM_tint, PM_tnon, PM_ttup, PM_lenT, PM_lenF, PM_int, PM_abs, PM_tupT, PM_lstF, PM_ixT, PM_eM, PM_iSeq, PM_seqT, PM_seqF, PM_rng1, PM_rng2, PM_enum, PZ_bind, PZ_nx, PZ_bk, PZ_ct, PZ_rt, SQ_nx, SQ_rt, SQ_ct, SQ_bk, TQ_nx, TQ_ct, TQ_bk, TQ_rt, PZ_seq, PZ_ret, PZ_drop, PZ_if, PZ_asg, PZ_one, PZ_par, PZ_allN, PZ_allC, PZ_tup, PZ_sub, PZ_fld, PZ_for, List.getElem?_cons_zero, List.getElem?_cons_succ, Option.some.injEq, exists_eq_left', exists_eq_left, List.set_cons_zero, List.set_cons_succ, setAll, List.length_cons, List.length_nil, List.map_cons, List.map_nil, Nat.reduceAdd, Nat.reduceSub, List.replicate, List.cons_append, List.nil_append, true_and, and_true, Bool.not_true, Bool.not_false, if_true, if_false, Bool.false_eq_true, D.int.injEq, D.isNon, D.isBl, Nat.reduceLeDiff, dropR_len, Nat.le_refl, ite_true, ite_false, reduceCtorEq, s1, s4, s5, PM_isiO (Γ := Γ) (i := 1) (j := 0) c1 c0, e10]
    refine (e_draw (k := k) hp (many := (by' : Int)) (by omega) (by omega)).imp ?_
    rintro d S' ⟨⟨z, rfl, z1, z2⟩, hd⟩
    exact ⟨z, rfl, z1, by omega, hd.1⟩
/-- a pair of simple values -/
def pairD (d : D) : Prop := ∃ a b, d = .tup [a, b] ∧ simpD a ∧ simpD b
theorem x_pick {C : Calls} {xs : List D} {r : Nat} {P : D → Prop} (hC : C = CC (k + 2)) (hp : PenAt 0 1 S) (hr : S[r]? = some (.lst xs)) (hr0 : r ≠ 0) (hx : ∀ d ∈ xs, P d) (h1 : 1 ≤ xs.length) (h2 : xs.length < 2 ^ 60) : PM (C.fn 24 [.ref 0, .ref r]) S fun d S' => P d ∧ PenAt 0 1 S' := by
  subst hC
  refine (e_pick (k := k) hp hr hr0 h1 h2).imp ?_
  rintro d S' ⟨hd, hD⟩
  exact ⟨hx d hd, hD.1⟩
theorem len_ne {p q : Nat} (h : PenAt p q S) : S.length ≠ p := by have := h.lt; omega
theorem ap_len {c : Cell} : (S ++ [c]).length = S.length + 1 := by simp
theorem get_ap {r : Nat} {c : Cell} {d : Cell} (h : S[r]? = some c) : (S ++ [d])[r]? = some c := by
  rw [List.getElem?_append_left (List.getElem?_eq_some_iff.mp h).1]; exact h
/-- value: one of what is made six times, None, told, a number -/
theorem x_value {j : Nat} {t z a b : D} (hj : j < 2) (hnew : ∀ S, (CC (k + 3)).new j [a, b] S = some (.ok (.obj j [a, b]) S)) {e4 e9 : Ev} (h4 : ∀ S (Q : D → Store → Prop), PM (e4 ρ) S Q ↔ Q t S) (h9 : ∀ S (Q : D → Store → Prop), PM (e9 ρ) S Q ↔ Q z S) (ha : simpD a) (hb : simpD b) (ht : toldD t) (hz : ∃ i, z = .int i) (hp : PenAt 0 1 S) (s1 : ρ[1]? = some (some (.ref 0))) (s11 : ρ[11]? = some (some a)) (s12 : ρ[12]? = some (some b)) :
    PM (eCall (CC (k + 3)) 24 2 (aCons (eSlot 1) (aCons (eOp oAdd (eOp oMul (eLst (aCons (eNew (CC (k + 3)) j 2 (aCons (eSlot 11) (aCons (eSlot 12) aNil))) aNil)) (eC (.int 6))) (eLst (aCons (eC .non) (aCons e4 (aCons e9 aNil))))) aNil)) ρ) S fun d S' => AskD d ∧ PenAt 0 1 S' := by
  have b1 : 1 ≤ sizeLine := by decide
  have b3 : 3 ≤ sizeLine := by decide
  have r6 : repOk 1 6 := by decide
  simp only [PM_ret, PM_bind, PM_guard, PM_slot', PM_eC, PM_eOp, PM_eUn, PM_eT, PM_tV, PM_eAnd, PM_eOr, PM_tAnd, PM_tOr, PM_tNot, PM_eIf, PM_tIf, PM_tCmp, PM_tChn, PM_last, PM_more, PM_aNil, PM_aCons, PM_eTup, PM_eLst, PM_eCall, PM_eNew, PM_eDrop, PM_add, PM_sub, PM_mul, PM_fdiv, PM_mod, PM_pow, PM_neg, PM_lt, PM_le, PM_gt, PM_ge, PM_eqi, PM_nei, own_int, own_bl, own_tup, own_str, PM_isNon, PM_isBl, PM_isnot, PM_tbl, PM_tint, PM_tnon, PM_ttup, PM_lenT, PM_lenF, PM_int, PM_abs, PM_tupT, PM_lstF, PM_ixT, PM_eM, PM_iSeq, PM_seqT, PM_seqF, PM_rng1, PM_rng2, PM_enum, PZ_bind, PZ_nx, PZ_bk, PZ_ct, PZ_rt, SQ_nx, SQ_rt, SQ_ct, SQ_bk, TQ_nx, TQ_ct, TQ_bk, TQ_rt, PZ_seq, PZ_ret, PZ_drop, PZ_if, PZ_asg, PZ_one, PZ_par, PZ_allN, PZ_allC, PZ_tup, PZ_sub, PZ_fld, PZ_for, List.getElem?_cons_zero, List.getElem?_cons_succ, Option.some.injEq, exists_eq_left', exists_eq_left, List.set_cons_zero, List.set_cons_succ, setAll, List.length_cons, List.length_nil, List.map_cons, List.map_nil, Nat.reduceAdd, Nat.reduceSub, List.replicate, List.cons_append, List.nil_append, true_and, and_true, Bool.not_true, Bool.not_false, if_true, if_false, Bool.false_eq_true, D.int.injEq, D.isNon, D.isBl, Nat.reduceLeDiff, dropR_len, Nat.le_refl, ite_true, ite_false, reduceCtorEq, s1, s11, s12, PM_of (hnew _), b1, PM_mulL get_last, r6, h4, h9, b3]
  have g1 : ∀ c : Cell, (S ++ [Cell.lst [.obj j [a, b]]] ++ [c])[(S ++ [Cell.lst [.obj j [a, b]]]).length]? = some c := fun c => get_last
  rw [PM_addL (get_ap (g1 _)) get_last]
  refine ⟨by show (9 : Nat) ≤ sizeLine; decide, ?_⟩
  have e6 : (6 : Int).toNat = 6 := rfl
  rw [e6]
  refine x_pick (k := k + 1) rfl hp.ap.ap.ap.ap get_last (by have := hp.lt; simp) (P := AskD) ?_ (by show (1 : Nat) ≤ 9; decide) (by show (9 : Nat) < 2 ^ 60; decide)
  intro d hd
  have hd : d ∈ [D.obj j [a, b], .obj j [a, b], .obj j [a, b], .obj j [a, b], .obj j [a, b], .obj j [a, b], .non, t, z] := hd
  simp only [List.mem_cons, List.not_mem_nil, or_false] at hd
  have hob : AskD (.obj j [a, b]) := .ob j a b hj ha hb
  rcases hd with rfl | rfl | rfl | rfl | rfl | rfl | rfl | rfl | rfl
  · exact hob
  · exact hob
  · exact hob
  · exact hob
  · exact hob
  · exact hob
  · exact .non
  · rcases ht with ⟨n, b, rfl, _, _⟩ | ⟨i, j, rfl⟩
    · exact .ob 0 _ _ (by decide) trivial trivial
    · exact .ob 1 _ _ (by decide) trivial trivial
  · obtain ⟨i, rfl⟩ := hz
    exact .int i
end


section
variable {k : Nat} {S : Store} {ρ : En} {Q : D → Store → Prop} {B : Bool → Store → Prop}
def LstOf (m : Nat) (P : D → Prop) (d : D) (S : Store) : Prop := ∃ r xs, d = .ref r ∧ r ≠ 0 ∧ S[r]? = some (.lst xs) ∧ (∀ x ∈ xs, P x) ∧ 1 ≤ xs.length ∧ xs.length ≤ m
theorem LstOf.new {m : Nat} {P : D → Prop} {xs : List D} (hp : PenAt 0 1 S) (h : ∀ x ∈ xs, P x) (h1 : 1 ≤ xs.length) (h2 : xs.length ≤ m) : LstOf m P (.ref S.length) (S ++ [.lst xs]) := ⟨_, xs, rfl, len_ne hp, get_last, h, h1, h2⟩
theorem LstOf.drawn {m : Nat} {P : D → Prop} {d : D} {S' : Store} (h : LstOf m P d S) (hd : Drawn 0 1 S S') : LstOf m P d S' := by
  obtain ⟨r, xs, h1, h2, h3, h4⟩ := h
  exact ⟨r, xs, h1, h2, by rw [hd.other h2]; exact h3, h4⟩
theorem x_six {z : Int} {b : Nat} (hz : 0 ≤ z ∧ z < 2 ^ 40) (hb : 1 ≤ b ∧ b < 2 ^ 24) (hp : PenAt 0 1 S) (s9 : ρ[9]? = some (some (.int z))) (s5 : ρ[5]? = some (some (.int b))) :
    PM (eLst (aCons (eTup (aCons (eSlot 9) (aCons (eSlot 5) aNil))) (aCons (eTup (aCons (eSlot 9) (aCons (eSlot 5) aNil))) (aCons (eTup (aCons (eOp oAdd (eSlot 9) (eSlot 5)) (aCons (eSlot 5) aNil))) (aCons (eTup (aCons (eSlot 9) (aCons (eOp oMul (eC (.int 2)) (eSlot 5)) aNil))) (aCons (eTup (aCons (eOp oAdd (eSlot 9) (eC (.int 1))) (aCons (eSlot 5) aNil))) (aCons (eTup (aCons (eOp oSub (eSlot 9) (eSlot 5)) (aCons (eSlot 5) aNil))) aNil)))))) ρ) S fun d S' => LstOf 10 pairD d S' ∧ PenAt 0 1 S' := by
  have m1 : mulOk 2 (b : Int) := mulOk_l (by decide) (by decide)
  have b6 : 6 ≤ sizeLine := by decide
  simp only [PM_ret, PM_bind, PM_guard, PM_slot', PM_eC, PM_eOp, PM_eUn, PM_eT, PM_tV, PM_eAnd, PM_eOr, PM_tAnd, PM_tOr, PM_tNot, PM_eIf, PM_tIf, PM_tCmp, PM_tChn, PM_last, PM_more, PM_aNil, PM_aCons, PM_eTup, PM_eLst, PM_eCall, PM_eNew, PM_eDrop, PM_add, PM_sub, PM_mul, PM_fdiv, PM_mod, PM_pow, PM_neg, PM_lt, PM_le, PM_gt, PM_ge, PM_eqi, PM_nei, own_int, own_bl, own_tup, own_str, PM_isNon, PM_isBl, PM_isnot, PM_tbl, PM_tint, PM_tnon, PM_ttup, PM_lenT, PM_lenF, PM_int, PM_abs, PM_tupT, PM_lstF, PM_ixT, PM_eM, PM_iSeq, PM_seqT, PM_seqF, PM_rng1, PM_rng2, PM_enum, PZ_bind, PZ_nx, PZ_bk, PZ_ct, PZ_rt, SQ_nx, SQ_rt, SQ_ct, SQ_bk, TQ_nx, TQ_ct, TQ_bk, TQ_rt, PZ_seq, PZ_ret, PZ_drop, PZ_if, PZ_asg, PZ_one, PZ_par, PZ_allN, PZ_allC, PZ_tup, PZ_sub, PZ_fld, PZ_for, List.getElem?_cons_zero, List.getElem?_cons_succ, Option.some.injEq, exists_eq_left', exists_eq_left, List.set_cons_zero, List.set_cons_succ, setAll, List.length_cons, List.length_nil, List.map_cons, List.map_nil, Nat.reduceAdd, Nat.reduceSub, List.replicate, List.cons_append, List.nil_append, true_and, and_true, Bool.not_true, Bool.not_false, if_true, if_false, Bool.false_eq_true, D.int.injEq, D.isNon, D.isBl, Nat.reduceLeDiff, dropR_len, Nat.le_refl, ite_true, ite_false, reduceCtorEq, s9, s5, big2, m1, b6]
  refine ⟨.new hp (fun x hx => ?_) (by simp) (by simp), hp.ap⟩
  simp only [List.mem_cons, List.not_mem_nil, or_false] at hx
  rcases hx with rfl | rfl | rfl | rfl | rfl | rfl <;> exact ⟨_, _, rfl, trivial, trivial⟩
theorem x_twelve {z : Int} {b : Nat} {d10 : D} (hz : 0 ≤ z ∧ z < 2 ^ 40) (hb : 1 ≤ b ∧ b < 2 ^ 24) (hp : PenAt 0 1 S) (hl : LstOf 10 pairD d10 S) (s1 : ρ[1]? = some (some (.ref 0))) (s9 : ρ[9]? = some (some (.int z))) (s5 : ρ[5]? = some (some (.int b))) (s10 : ρ[10]? = some (some d10)) :
    PM (eOp oAdd (eSlot 10) (eLst (aCons (eTup (aCons (eC (.bl true)) (aCons (eSlot 5) aNil))) (aCons (eTup (aCons (eSlot 9) (aCons (eC (.bl true)) aNil))) (aCons (eTup (aCons (eC .non) (aCons (eSlot 5) aNil))) (aCons (eTup (aCons (eSlot 9) (aCons (eC .non) aNil))) (aCons (eTup (aCons (eCall (CC (k + 1)) 23 2 (aCons (eSlot 1) (aCons (eSlot 5) aNil))) (aCons (eSlot 5) aNil))) (aCons (eTup (aCons (eC (.int 0)) (aCons (eC (.int 0)) aNil))) aNil))))))) ρ) S fun d S' => LstOf 20 pairD d S' ∧ PenAt 0 1 S' := by
  have b6 : 6 ≤ sizeLine := by decide
  simp only [PM_ret, PM_bind, PM_guard, PM_slot', PM_eC, PM_eOp, PM_eUn, PM_eT, PM_tV, PM_eAnd, PM_eOr, PM_tAnd, PM_tOr, PM_tNot, PM_eIf, PM_tIf, PM_tCmp, PM_tChn, PM_last, PM_more, PM_aNil, PM_aCons, PM_eTup, PM_eLst, PM_eCall, PM_eNew, PM_eDrop, PM_add, PM_sub, PM_mul, PM_fdiv, PM_mod, PM_pow, PM_neg, PM_lt, PM_le, PM_gt, PM_ge, PM_eqi, PM_nei, own_int, own_bl, own_tup, own_str, PM_isNon, PM_isBl, PM_isnot, PM_tbl, PM_tint, PM_tnon, PM_ttup, PM_lenT, PM_lenF, PM_int, PM_abs, PM_tupT, PM_lstF, PM_ixT, PM_eM, PM_iSeq, PM_seqT, PM_seqF, PM_rng1, PM_rng2, PM_enum, PZ_bind, PZ_nx, PZ_bk, PZ_ct, PZ_rt, SQ_nx, SQ_rt, SQ_ct, SQ_bk, TQ_nx, TQ_ct, TQ_bk, TQ_rt, PZ_seq, PZ_ret, PZ_drop, PZ_if, PZ_asg, PZ_one, PZ_par, PZ_allN, PZ_allC, PZ_tup, PZ_sub, PZ_fld, PZ_for, List.getElem?_cons_zero, List.getElem?_cons_succ, Option.some.injEq, exists_eq_left', exists_eq_left, List.set_cons_zero, List.set_cons_succ, setAll, List.length_cons, List.length_nil, List.map_cons, List.map_nil, Nat.reduceAdd, Nat.reduceSub, List.replicate, List.cons_append, List.nil_append, true_and, and_true, Bool.not_true, Bool.not_false, if_true, if_false, Bool.false_eq_true, D.int.injEq, D.isNon, D.isBl, Nat.reduceLeDiff, dropR_len, Nat.le_refl, ite_true, ite_false, reduceCtorEq, s1, s9, s5, s10, big2]
  refine (e_draw (k := k) hp (many := (b : Int)) (by omega) (by omega)).imp ?_
  rintro d S1 ⟨⟨i, rfl, i1, i2⟩, hd⟩
  obtain ⟨r, xs, rfl, hr0, hr, hx, hx1, hx2⟩ := hl.drawn hd
  simp only [PM_ret, PM_bind, PM_guard, PM_slot', PM_eC, PM_eOp, PM_eUn, PM_eT, PM_tV, PM_eAnd, PM_eOr, PM_tAnd, PM_tOr, PM_tNot, PM_eIf, PM_tIf, PM_tCmp, PM_tChn, PM_last, PM_more, PM_aNil, PM_aCons, PM_eTup, PM_eLst, PM_eCall, PM_eNew, PM_eDrop, PM_add, PM_sub, PM_mul, PM_fdiv, PM_mod, PM_pow, PM_neg, PM_lt, PM_le, PM_gt, PM_ge, PM_eqi, PM_nei, own_int, own_bl, own_tup, own_str, PM_isNon, PM_isBl, PM_isnot, PM_tbl, PM_tint, PM_tnon, PM_ttup, PM_lenT, PM_lenF, PM_int, PM_abs, PM_tupT, PM_lstF, PM_ixT, PM_eM, PM_iSeq, PM_seqT, PM_seqF, PM_rng1, PM_rng2, PM_enum, PZ_bind, PZ_nx, PZ_bk, PZ_ct, PZ_rt, SQ_nx, SQ_rt, SQ_ct, SQ_bk, TQ_nx, TQ_ct, TQ_bk, TQ_rt, PZ_seq, PZ_ret, PZ_drop, PZ_if, PZ_asg, PZ_one, PZ_par, PZ_allN, PZ_allC, PZ_tup, PZ_sub, PZ_fld, PZ_for, List.getElem?_cons_zero, List.getElem?_cons_succ, Option.some.injEq, exists_eq_left', exists_eq_left, List.set_cons_zero, List.set_cons_succ, setAll, List.length_cons, List.length_nil, List.map_cons, List.map_nil, Nat.reduceAdd, Nat.reduceSub, List.replicate, List.cons_append, List.nil_append, true_and, and_true, Bool.not_true, Bool.not_false, if_true, if_false, Bool.false_eq_true, D.int.injEq, D.isNon, D.isBl, Nat.reduceLeDiff, dropR_len, Nat.le_refl, ite_true, ite_false, reduceCtorEq, big2, b6]
  rw [PM_addL (get_ap hr) get_last]
  refine ⟨by show xs.length + 6 ≤ sizeLine; have := sizeLine_big; omega, .new hd.1.ap (fun x hxx => ?_) (by simp) (by simp; omega), hd.1.ap.ap⟩
  rcases List.mem_append.mp hxx with hxx | hxx
  · exact hx x hxx
  · simp only [List.mem_cons, List.not_mem_nil, or_false] at hxx
    rcases hxx with rfl | rfl | rfl | rfl | rfl | rfl <;> exact ⟨_, _, rfl, trivial, trivial⟩
theorem x_draws {n : Nat} {d10 : D} {i j : Int} (hp : PenAt 0 1 S) (hl : LstOf 10 pairD d10 S) (s1 : ρ[1]? = some (some (.ref 0))) (s15 : ρ[15]? = some (some (.int i))) (s16 : ρ[16]? = some (some (.int j))) (s10 : ρ[10]? = some (some d10)) :
    PM (eOp oAdd (eSlot 10) (eLst (aCons (eTup (aCons (eC .non) (aCons (eSlot 16) aNil))) (aCons (eTup (aCons (eSlot 15) (aCons (eC .non) aNil))) (aCons (eTup (aCons (eUn oNeg (eC (.int 1))) (aCons (eSlot 16) aNil))) (aCons (eTup (aCons (eCall (CC (k + 1)) 23 2 (aCons (eSlot 1) (aCons (eC (.int 4)) aNil))) (aCons (eCall (CC (k + 1)) 23 2 (aCons (eSlot 1) (aCons (eC (.int 5)) aNil))) aNil))) aNil))))) ρ) S fun d S' => LstOf 20 pairD d S' ∧ PenAt 0 1 S' := by
  have b4 : 4 ≤ sizeLine := by decide
  simp only [PM_ret, PM_bind, PM_guard, PM_slot', PM_eC, PM_eOp, PM_eUn, PM_eT, PM_tV, PM_eAnd, PM_eOr, PM_tAnd, PM_tOr, PM_tNot, PM_eIf, PM_tIf, PM_tCmp, PM_tChn, PM_last, PM_more, PM_aNil, PM_aCons, PM_eTup, PM_eLst, PM_eCall, PM_eNew, PM_eDrop, PM_add, PM_sub, PM_mul, PM_fdiv, PM_mod, PM_pow, PM_neg, PM_lt, PM_le, PM_gt, PM_ge, PM_eqi, PM_nei, own_int, own_bl, own_tup, own_str, PM_isNon, PM_isBl, PM_isnot, PM_tbl, PM_tint, PM_tnon, PM_ttup, PM_lenT, PM_lenF, PM_int, PM_abs, PM_tupT, PM_lstF, PM_ixT, PM_eM, PM_iSeq, PM_seqT, PM_seqF, PM_rng1, PM_rng2, PM_enum, PZ_bind, PZ_nx, PZ_bk, PZ_ct, PZ_rt, SQ_nx, SQ_rt, SQ_ct, SQ_bk, TQ_nx, TQ_ct, TQ_bk, TQ_rt, PZ_seq, PZ_ret, PZ_drop, PZ_if, PZ_asg, PZ_one, PZ_par, PZ_allN, PZ_allC, PZ_tup, PZ_sub, PZ_fld, PZ_for, List.getElem?_cons_zero, List.getElem?_cons_succ, Option.some.injEq, exists_eq_left', exists_eq_left, List.set_cons_zero, List.set_cons_succ, setAll, List.length_cons, List.length_nil, List.map_cons, List.map_nil, Nat.reduceAdd, Nat.reduceSub, List.replicate, List.cons_append, List.nil_append, true_and, and_true, Bool.not_true, Bool.not_false, if_true, if_false, Bool.false_eq_true, D.int.injEq, D.isNon, D.isBl, Nat.reduceLeDiff, dropR_len, Nat.le_refl, ite_true, ite_false, reduceCtorEq, s1, s15, s16, s10, big2]
  refine (e_draw (k := k) hp (many := 4) (by decide) (by decide)).imp ?_
  rintro d S1 ⟨⟨u, rfl, i1, i2⟩, hd⟩
  refine (e_draw (k := k) hd.1 (many := 5) (by decide) (by decide)).imp ?_
  rintro d S2 ⟨⟨v, rfl, j1, j2⟩, hd2⟩
  obtain ⟨r, xs, rfl, hr0, hr, hx, hx1, hx2⟩ := (hl.drawn hd).drawn hd2
  simp only [PM_ret, PM_bind, PM_guard, PM_slot', PM_eC, PM_eOp, PM_eUn, PM_eT, PM_tV, PM_eAnd, PM_eOr, PM_tAnd, PM_tOr, PM_tNot, PM_eIf, PM_tIf, PM_tCmp, PM_tChn, PM_last, PM_more, PM_aNil, PM_aCons, PM_eTup, PM_eLst, PM_eCall, PM_eNew, PM_eDrop, PM_add, PM_sub, PM_mul, PM_fdiv, PM_mod, PM_pow, PM_neg, PM_lt, PM_le, PM_gt, PM_ge, PM_eqi, PM_nei, own_int, own_bl, own_tup, own_str, PM_isNon, PM_isBl, PM_isnot, PM_tbl, PM_tint, PM_tnon, PM_ttup, PM_lenT, PM_lenF, PM_int, PM_abs, PM_tupT, PM_lstF, PM_ixT, PM_eM, PM_iSeq, PM_seqT, PM_seqF, PM_rng1, PM_rng2, PM_enum, PZ_bind, PZ_nx, PZ_bk, PZ_ct, PZ_rt, SQ_nx, SQ_rt, SQ_ct, SQ_bk, TQ_nx, TQ_ct, TQ_bk, TQ_rt, PZ_seq, PZ_ret, PZ_drop, PZ_if, PZ_asg, PZ_one, PZ_par, PZ_allN, PZ_allC, PZ_tup, PZ_sub, PZ_fld, PZ_for, List.getElem?_cons_zero, List.getElem?_cons_succ, Option.some.injEq, exists_eq_left', exists_eq_left, List.set_cons_zero, List.set_cons_succ, setAll, List.length_cons, List.length_nil, List.map_cons, List.map_nil, Nat.reduceAdd, Nat.reduceSub, List.replicate, List.cons_append, List.nil_append, true_and, and_true, Bool.not_true, Bool.not_false, if_true, if_false, Bool.false_eq_true, D.int.injEq, D.isNon, D.isBl, Nat.reduceLeDiff, dropR_len, Nat.le_refl, ite_true, ite_false, reduceCtorEq, big2, b4]
  rw [PM_addL (get_ap hr) get_last]
  refine ⟨by show xs.length + 4 ≤ sizeLine; have := sizeLine_big; omega, .new hd2.1.ap (fun x hxx => ?_) (by simp) (by simp; omega), hd2.1.ap.ap⟩
  rcases List.mem_append.mp hxx with hxx | hxx
  · exact hx x hxx
  · simp only [List.mem_cons, List.not_mem_nil, or_false] at hxx
    rcases hxx with rfl | rfl | rfl | rfl <;> exact ⟨_, _, rfl, trivial, trivial⟩
theorem x_seven {i j : Int} (hp : PenAt 0 1 S) (s15 : ρ[15]? = some (some (.int i))) (s16 : ρ[16]? = some (some (.int j))) :
    PM (eLst (aCons (eTup (aCons (eSlot 15) (aCons (eSlot 16) aNil))) (aCons (eTup (aCons (eSlot 15) (aCons (eSlot 16) aNil))) (aCons (eTup (aCons (eSlot 16) (aCons (eSlot 15) aNil))) (aCons (eTup (aCons (eSlot 15) (aCons (eSlot 15) aNil))) (aCons (eTup (aCons (eSlot 15) (aCons (eOp oAdd (eSlot 16) (eC (.int 1))) aNil))) (aCons (eTup (aCons (eC (.bl false)) (aCons (eSlot 16) aNil))) (aCons (eTup (aCons (eSlot 15) (aCons (eC (.bl true)) aNil))) aNil))))))) ρ) S fun d S' => LstOf 10 pairD d S' ∧ PenAt 0 1 S' := by
  have b7 : 7 ≤ sizeLine := by decide
  simp only [PM_ret, PM_bind, PM_guard, PM_slot', PM_eC, PM_eOp, PM_eUn, PM_eT, PM_tV, PM_eAnd, PM_eOr, PM_tAnd, PM_tOr, PM_tNot, PM_eIf, PM_tIf, PM_tCmp, PM_tChn, PM_last, PM_more, PM_aNil, PM_aCons, PM_eTup, PM_eLst, PM_eCall, PM_eNew, PM_eDrop, PM_add, PM_sub, PM_mul, PM_fdiv, PM_mod, PM_pow, PM_neg, PM_lt, PM_le, PM_gt, PM_ge, PM_eqi, PM_nei, own_int, own_bl, own_tup, own_str, PM_isNon, PM_isBl, PM_isnot, PM_tbl, PM_tint, PM_tnon, PM_ttup, PM_lenT, PM_lenF, PM_int, PM_abs, PM_tupT, PM_lstF, PM_ixT, PM_eM, PM_iSeq, PM_seqT, PM_seqF, PM_rng1, PM_rng2, PM_enum, PZ_bind, PZ_nx, PZ_bk, PZ_ct, PZ_rt, SQ_nx, SQ_rt, SQ_ct, SQ_bk, TQ_nx, TQ_ct, TQ_bk, TQ_rt, PZ_seq, PZ_ret, PZ_drop, PZ_if, PZ_asg, PZ_one, PZ_par, PZ_allN, PZ_allC, PZ_tup, PZ_sub, PZ_fld, PZ_for, List.getElem?_cons_zero, List.getElem?_cons_succ, Option.some.injEq, exists_eq_left', exists_eq_left, List.set_cons_zero, List.set_cons_succ, setAll, List.length_cons, List.length_nil, List.map_cons, List.map_nil, Nat.reduceAdd, Nat.reduceSub, List.replicate, List.cons_append, List.nil_append, true_and, and_true, Bool.not_true, Bool.not_false, if_true, if_false, Bool.false_eq_true, D.int.injEq, D.isNon, D.isBl, Nat.reduceLeDiff, dropR_len, Nat.le_refl, ite_true, ite_false, reduceCtorEq, s15, s16, big2, b7]
  refine ⟨.new hp (fun x hx => ?_) (by simp) (by simp), hp.ap⟩
  simp only [List.mem_cons, List.not_mem_nil, or_false] at hx
  rcases hx with rfl | rfl | rfl | rfl | rfl | rfl | rfl <;> exact ⟨_, _, rfl, trivial, trivial⟩
theorem x_two {d10 : D} (hp : PenAt 0 1 S) (hl : LstOf 20 pairD d10 S) (s1 : ρ[1]? = some (some (.ref 0))) (s10 : ρ[10]? = some (some d10)) : PM (eCall (CC (k + 2)) 24 2 (aCons (eSlot 1) (aCons (eSlot 10) aNil)) ρ) S fun d S' => pairD d ∧ PenAt 0 1 S' := by
  obtain ⟨r, xs, rfl, hr0, hr, hx, hx1, hx2⟩ := hl
  simp only [PM_ret, PM_bind, PM_guard, PM_slot', PM_eC, PM_eOp, PM_eUn, PM_eT, PM_tV, PM_eAnd, PM_eOr, PM_tAnd, PM_tOr, PM_tNot, PM_eIf, PM_tIf, PM_tCmp, PM_tChn, PM_last, PM_more, PM_aNil, PM_aCons, PM_eTup, PM_eLst, PM_eCall, PM_eNew, PM_eDrop, PM_add, PM_sub, PM_mul, PM_fdiv, PM_mod, PM_pow, PM_neg, PM_lt, PM_le, PM_gt, PM_ge, PM_eqi, PM_nei, own_int, own_bl, own_tup, own_str, PM_isNon, PM_isBl, PM_isnot, PM_tbl, PM_tint, PM_tnon, PM_ttup, PM_lenT, PM_lenF, PM_int, PM_abs, PM_tupT, PM_lstF, PM_ixT, PM_eM, PM_iSeq, PM_seqT, PM_seqF, PM_rng1, PM_rng2, PM_enum, PZ_bind, PZ_nx, PZ_bk, PZ_ct, PZ_rt, SQ_nx, SQ_rt, SQ_ct, SQ_bk, TQ_nx, TQ_ct, TQ_bk, TQ_rt, PZ_seq, PZ_ret, PZ_drop, PZ_if, PZ_asg, PZ_one, PZ_par, PZ_allN, PZ_allC, PZ_tup, PZ_sub, PZ_fld, PZ_for, List.getElem?_cons_zero, List.getElem?_cons_succ, Option.some.injEq, exists_eq_left', exists_eq_left, List.set_cons_zero, List.set_cons_succ, setAll, List.length_cons, List.length_nil, List.map_cons, List.map_nil, Nat.reduceAdd, Nat.reduceSub, List.replicate, List.cons_append, List.nil_append, true_and, and_true, Bool.not_true, Bool.not_false, if_true, if_false, Bool.false_eq_true, D.int.injEq, D.isNon, D.isBl, Nat.reduceLeDiff, dropR_len, Nat.le_refl, ite_true, ite_false, reduceCtorEq, s1, s10]
  exact x_pick (k := k) rfl hp hr hr0 hx hx1 (by omega)
/-- the first good -/
def g1 (b : Nat) : D → Bool
  | .obj 0 [.int n, .int b'] => decide (b' = (b : Int)) && (decide (0 ≤ n) && decide (n < (b : Int)))
  | _ => false
theorem x_good1 {b : Nat} {v : D} (hv : AskD v) (s13 : ρ[13]? = some (some v)) (s5 : ρ[5]? = some (some (.int b))) :
    PM (eAnd (eOp (fIsi Γ) (eSlot 13) (eC (.cls 0))) (eAnd (eCall (CC (k + 1)) 26 1 (aCons (eUn (oFld Γ "number") (eSlot 13)) aNil)) (eAnd (eCall (CC (k + 1)) 26 1 (aCons (eUn (oFld Γ "by") (eSlot 13)) aNil)) (eAnd (eT (tCmp (cOwn Γ (CC (k + 1)) "__eq__" cEq) (eUn (oFld Γ "by") (eSlot 13)) (eSlot 5))) (eT (tChn (eC (.int 0)) (.more cLe (eUn (oFld Γ "number") (eSlot 13)) (.last cLt (eSlot 5)))))))) ρ) S fun d S' => d = .bl (g1 b v) ∧ S' = S := by
  cases hv with
  | non => simp only [PM_ret, PM_bind, PM_guard, PM_slot', PM_eC, PM_eOp, PM_eUn, PM_eT, PM_tV, PM_eAnd, PM_eOr, PM_tAnd, PM_tOr, PM_tNot, PM_eIf, PM_tIf, PM_tCmp, PM_tChn, PM_last, PM_more, PM_aNil, PM_aCons, PM_eTup, PM_eLst, PM_eCall, PM_eNew, PM_eDrop, PM_add, PM_sub, PM_mul, PM_fdiv, PM_mod, PM_pow, PM_neg, PM_lt, PM_le, PM_gt, PM_ge, PM_eqi, PM_nei, own_int, own_bl, own_tup, own_str, PM_isNon, PM_isBl, PM_isnot, PM_tbl, PM_tint, PM_tnon, PM_ttup, PM_lenT, PM_lenF, PM_int, PM_abs, PM_tupT, PM_lstF, PM_ixT, PM_eM, PM_iSeq, PM_seqT, PM_seqF, PM_rng1, PM_rng2, PM_enum, PZ_bind, PZ_nx, PZ_bk, PZ_ct, PZ_rt, SQ_nx, SQ_rt, SQ_ct, SQ_bk, TQ_nx, TQ_ct, TQ_bk, TQ_rt, PZ_seq, PZ_ret, PZ_drop, PZ_if, PZ_asg, PZ_one, PZ_par, PZ_allN, PZ_allC, PZ_tup, PZ_sub, PZ_fld, PZ_for, List.getElem?_cons_zero, List.getElem?_cons_succ, Option.some.injEq, exists_eq_left', exists_eq_left, List.set_cons_zero, List.set_cons_succ, setAll, List.length_cons, List.length_nil, List.map_cons, List.map_nil, Nat.reduceAdd, Nat.reduceSub, List.replicate, List.cons_append, List.nil_append, true_and, and_true, Bool.not_true, Bool.not_false, if_true, if_false, Bool.false_eq_true, D.int.injEq, D.isNon, D.isBl, Nat.reduceLeDiff, dropR_len, Nat.le_refl, ite_true, ite_false, reduceCtorEq, s13, isi_n c0]; rfl
  | int i => simp only [PM_ret, PM_bind, PM_guard, PM_slot', PM_eC, PM_eOp, PM_eUn, PM_eT, PM_tV, PM_eAnd, PM_eOr, PM_tAnd, PM_tOr, PM_tNot, PM_eIf, PM_tIf, PM_tCmp, PM_tChn, PM_last, PM_more, PM_aNil, PM_aCons, PM_eTup, PM_eLst, PM_eCall, PM_eNew, PM_eDrop, PM_add, PM_sub, PM_mul, PM_fdiv, PM_mod, PM_pow, PM_neg, PM_lt, PM_le, PM_gt, PM_ge, PM_eqi, PM_nei, own_int, own_bl, own_tup, own_str, PM_isNon, PM_isBl, PM_isnot, PM_tbl, PM_tint, PM_tnon, PM_ttup, PM_lenT, PM_lenF, PM_int, PM_abs, PM_tupT, PM_lstF, PM_ixT, PM_eM, PM_iSeq, PM_seqT, PM_seqF, PM_rng1, PM_rng2, PM_enum, PZ_bind, PZ_nx, PZ_bk, PZ_ct, PZ_rt, SQ_nx, SQ_rt, SQ_ct, SQ_bk, TQ_nx, TQ_ct, TQ_bk, TQ_rt, PZ_seq, PZ_ret, PZ_drop, PZ_if, PZ_asg, PZ_one, PZ_par, PZ_allN, PZ_allC, PZ_tup, PZ_sub, PZ_fld, PZ_for, List.getElem?_cons_zero, List.getElem?_cons_succ, Option.some.injEq, exists_eq_left', exists_eq_left, List.set_cons_zero, List.set_cons_succ, setAll, List.length_cons, List.length_nil, List.map_cons, List.map_nil, Nat.reduceAdd, Nat.reduceSub, List.replicate, List.cons_append, List.nil_append, true_and, and_true, Bool.not_true, Bool.not_false, if_true, if_false, Bool.false_eq_true, D.int.injEq, D.isNon, D.isBl, Nat.reduceLeDiff, dropR_len, Nat.le_refl, ite_true, ite_false, reduceCtorEq, s13, isi_i c0]; rfl
  | ob c x y hc ha hb =>
    match c, hc with
    | 1, _ =>
      have e10 : ((1 : Nat) == 0) = false := rfl
      simp only [PM_ret, PM_bind, PM_guard, PM_slot', PM_eC, PM_eOp, PM_eUn, PM_eT, PM_tV, PM_eAnd, PM_eOr, PM_tAnd, PM_tOr, PM_tNot, PM_eIf, PM_tIf, PM_tCmp, PM_tChn, PM_last, PM_more, PM_aNil, PM_aCons, PM_eTup, PM_eLst, PM_eCall, PM_eNew, PM_eDrop, PM_add, PM_sub, PM_mul, PM_fdiv, PM_mod, PM_pow, PM_neg, PM_lt, PM_le, PM_gt, PM_ge, PM_eqi, PM_nei, own_int, own_bl, own_tup, own_str, PM_isNon, PM_isBl, PM_isnot, PM_tbl, PM_tint, PM_tnon, PM_ttup, PM_lenT, PM_lenF, PM_int, PM_abs, PM_tupT, PM_lstF, PM_ixT, PM_eM, PM_iSeq, PM_seqT, PM_seqF, PM_rng1, PM_rng2, PM_enum, PZ_bind, PZ_nx, PZ_bk, PZ_ct, PZ_rt, SQ_nx, SQ_rt, SQ_ct, SQ_bk, TQ_nx, TQ_ct, TQ_bk, TQ_rt, PZ_seq, PZ_ret, PZ_drop, PZ_if, PZ_asg, PZ_one, PZ_par, PZ_allN, PZ_allC, PZ_tup, PZ_sub, PZ_fld, PZ_for, List.getElem?_cons_zero, List.getElem?_cons_succ, Option.some.injEq, exists_eq_left', exists_eq_left, List.set_cons_zero, List.set_cons_succ, setAll, List.length_cons, List.length_nil, List.map_cons, List.map_nil, Nat.reduceAdd, Nat.reduceSub, List.replicate, List.cons_append, List.nil_append, true_and, and_true, Bool.not_true, Bool.not_false, if_true, if_false, Bool.false_eq_true, D.int.injEq, D.isNon, D.isBl, Nat.reduceLeDiff, dropR_len, Nat.le_refl, ite_true, ite_false, reduceCtorEq, s13, PM_isiO (Γ := Γ) (i := 1) (j := 0) c1 c0, e10]; rfl
    | 0, _ =>
      have e00 : ((0 : Nat) == 0) = true := rfl
      have hw1 := e_lwhole (k := k) (S := S) ha
      have hw2 := e_lwhole (k := k) (S := S) hb
      simp only [PM_ret, PM_bind, PM_guard, PM_slot', PM_eC, PM_eOp, PM_eUn, PM_eT, PM_tV, PM_eAnd, PM_eOr, PM_tAnd, PM_tOr, PM_tNot, PM_eIf, PM_tIf, PM_tCmp, PM_tChn, PM_last, PM_more, PM_aNil, PM_aCons, PM_eTup, PM_eLst, PM_eCall, PM_eNew, PM_eDrop, PM_add, PM_sub, PM_mul, PM_fdiv, PM_mod, PM_pow, PM_neg, PM_lt, PM_le, PM_gt, PM_ge, PM_eqi, PM_nei, own_int, own_bl, own_tup, own_str, PM_isNon, PM_isBl, PM_isnot, PM_tbl, PM_tint, PM_tnon, PM_ttup, PM_lenT, PM_lenF, PM_int, PM_abs, PM_tupT, PM_lstF, PM_ixT, PM_eM, PM_iSeq, PM_seqT, PM_seqF, PM_rng1, PM_rng2, PM_enum, PZ_bind, PZ_nx, PZ_bk, PZ_ct, PZ_rt, SQ_nx, SQ_rt, SQ_ct, SQ_bk, TQ_nx, TQ_ct, TQ_bk, TQ_rt, PZ_seq, PZ_ret, PZ_drop, PZ_if, PZ_asg, PZ_one, PZ_par, PZ_allN, PZ_allC, PZ_tup, PZ_sub, PZ_fld, PZ_for, List.getElem?_cons_zero, List.getElem?_cons_succ, Option.some.injEq, exists_eq_left', exists_eq_left, List.set_cons_zero, List.set_cons_succ, setAll, List.length_cons, List.length_nil, List.map_cons, List.map_nil, Nat.reduceAdd, Nat.reduceSub, List.replicate, List.cons_append, List.nil_append, true_and, and_true, Bool.not_true, Bool.not_false, if_true, if_false, Bool.false_eq_true, D.int.injEq, D.isNon, D.isBl, Nat.reduceLeDiff, dropR_len, Nat.le_refl, ite_true, ite_false, reduceCtorEq, s13, s5, PM_isiO (Γ := Γ) (i := 0) (j := 0) c0 c0, e00, PM_fldO fl0, PM_fldO fl1, PM_of hw1, PM_of hw2]
      by_cases hab : isW x = true ∧ isW y = true
      · obtain ⟨n, b', rfl, rfl⟩ := w_or ha hb hab
        have i1 : isW (.int n) = true := rfl
        have i2 : isW (.int b') = true := rfl
        simp only [PM_ret, PM_bind, PM_guard, PM_slot', PM_eC, PM_eOp, PM_eUn, PM_eT, PM_tV, PM_eAnd, PM_eOr, PM_tAnd, PM_tOr, PM_tNot, PM_eIf, PM_tIf, PM_tCmp, PM_tChn, PM_last, PM_more, PM_aNil, PM_aCons, PM_eTup, PM_eLst, PM_eCall, PM_eNew, PM_eDrop, PM_add, PM_sub, PM_mul, PM_fdiv, PM_mod, PM_pow, PM_neg, PM_lt, PM_le, PM_gt, PM_ge, PM_eqi, PM_nei, own_int, own_bl, own_tup, own_str, PM_isNon, PM_isBl, PM_isnot, PM_tbl, PM_tint, PM_tnon, PM_ttup, PM_lenT, PM_lenF, PM_int, PM_abs, PM_tupT, PM_lstF, PM_ixT, PM_eM, PM_iSeq, PM_seqT, PM_seqF, PM_rng1, PM_rng2, PM_enum, PZ_bind, PZ_nx, PZ_bk, PZ_ct, PZ_rt, SQ_nx, SQ_rt, SQ_ct, SQ_bk, TQ_nx, TQ_ct, TQ_bk, TQ_rt, PZ_seq, PZ_ret, PZ_drop, PZ_if, PZ_asg, PZ_one, PZ_par, PZ_allN, PZ_allC, PZ_tup, PZ_sub, PZ_fld, PZ_for, List.getElem?_cons_zero, List.getElem?_cons_succ, Option.some.injEq, exists_eq_left', exists_eq_left, List.set_cons_zero, List.set_cons_succ, setAll, List.length_cons, List.length_nil, List.map_cons, List.map_nil, Nat.reduceAdd, Nat.reduceSub, List.replicate, List.cons_append, List.nil_append, true_and, and_true, Bool.not_true, Bool.not_false, if_true, if_false, Bool.false_eq_true, D.int.injEq, D.isNon, D.isBl, Nat.reduceLeDiff, dropR_len, Nat.le_refl, ite_true, ite_false, reduceCtorEq, i1, i2, PM_fldO fl0, PM_fldO fl1]
        unfold g1
        by_cases q1 : b' = (b : Int)
        · by_cases q2 : 0 ≤ n
          · simp only [PM_ret, PM_bind, PM_guard, PM_slot', PM_eC, PM_eOp, PM_eUn, PM_eT, PM_tV, PM_eAnd, PM_eOr, PM_tAnd, PM_tOr, PM_tNot, PM_eIf, PM_tIf, PM_tCmp, PM_tChn, PM_last, PM_more, PM_aNil, PM_aCons, PM_eTup, PM_eLst, PM_eCall, PM_eNew, PM_eDrop, PM_add, PM_sub, PM_mul, PM_fdiv, PM_mod, PM_pow, PM_neg, PM_lt, PM_le, PM_gt, PM_ge, PM_eqi, PM_nei, own_int, own_bl, own_tup, own_str, PM_isNon, PM_isBl, PM_isnot, PM_tbl, PM_tint, PM_tnon, PM_ttup, PM_lenT, PM_lenF, PM_int, PM_abs, PM_tupT, PM_lstF, PM_ixT, PM_eM, PM_iSeq, PM_seqT, PM_seqF, PM_rng1, PM_rng2, PM_enum, PZ_bind, PZ_nx, PZ_bk, PZ_ct, PZ_rt, SQ_nx, SQ_rt, SQ_ct, SQ_bk, TQ_nx, TQ_ct, TQ_bk, TQ_rt, PZ_seq, PZ_ret, PZ_drop, PZ_if, PZ_asg, PZ_one, PZ_par, PZ_allN, PZ_allC, PZ_tup, PZ_sub, PZ_fld, PZ_for, List.getElem?_cons_zero, List.getElem?_cons_succ, Option.some.injEq, exists_eq_left', exists_eq_left, List.set_cons_zero, List.set_cons_succ, setAll, List.length_cons, List.length_nil, List.map_cons, List.map_nil, Nat.reduceAdd, Nat.reduceSub, List.replicate, List.cons_append, List.nil_append, true_and, and_true, Bool.not_true, Bool.not_false, if_true, if_false, Bool.false_eq_true, D.int.injEq, D.isNon, D.isBl, Nat.reduceLeDiff, dropR_len, Nat.le_refl, ite_true, ite_false, reduceCtorEq, decide_eq_true q1, decide_eq_true q2, Bool.true_and, s5]
          · simp only [PM_ret, PM_bind, PM_guard, PM_slot', PM_eC, PM_eOp, PM_eUn, PM_eT, PM_tV, PM_eAnd, PM_eOr, PM_tAnd, PM_tOr, PM_tNot, PM_eIf, PM_tIf, PM_tCmp, PM_tChn, PM_last, PM_more, PM_aNil, PM_aCons, PM_eTup, PM_eLst, PM_eCall, PM_eNew, PM_eDrop, PM_add, PM_sub, PM_mul, PM_fdiv, PM_mod, PM_pow, PM_neg, PM_lt, PM_le, PM_gt, PM_ge, PM_eqi, PM_nei, own_int, own_bl, own_tup, own_str, PM_isNon, PM_isBl, PM_isnot, PM_tbl, PM_tint, PM_tnon, PM_ttup, PM_lenT, PM_lenF, PM_int, PM_abs, PM_tupT, PM_lstF, PM_ixT, PM_eM, PM_iSeq, PM_seqT, PM_seqF, PM_rng1, PM_rng2, PM_enum, PZ_bind, PZ_nx, PZ_bk, PZ_ct, PZ_rt, SQ_nx, SQ_rt, SQ_ct, SQ_bk, TQ_nx, TQ_ct, TQ_bk, TQ_rt, PZ_seq, PZ_ret, PZ_drop, PZ_if, PZ_asg, PZ_one, PZ_par, PZ_allN, PZ_allC, PZ_tup, PZ_sub, PZ_fld, PZ_for, List.getElem?_cons_zero, List.getElem?_cons_succ, Option.some.injEq, exists_eq_left', exists_eq_left, List.set_cons_zero, List.set_cons_succ, setAll, List.length_cons, List.length_nil, List.map_cons, List.map_nil, Nat.reduceAdd, Nat.reduceSub, List.replicate, List.cons_append, List.nil_append, true_and, and_true, Bool.not_true, Bool.not_false, if_true, if_false, Bool.false_eq_true, D.int.injEq, D.isNon, D.isBl, Nat.reduceLeDiff, dropR_len, Nat.le_refl, ite_true, ite_false, reduceCtorEq, decide_eq_true q1, decide_eq_false q2, Bool.true_and, Bool.false_and]
        · simp only [PM_ret, PM_bind, PM_guard, PM_slot', PM_eC, PM_eOp, PM_eUn, PM_eT, PM_tV, PM_eAnd, PM_eOr, PM_tAnd, PM_tOr, PM_tNot, PM_eIf, PM_tIf, PM_tCmp, PM_tChn, PM_last, PM_more, PM_aNil, PM_aCons, PM_eTup, PM_eLst, PM_eCall, PM_eNew, PM_eDrop, PM_add, PM_sub, PM_mul, PM_fdiv, PM_mod, PM_pow, PM_neg, PM_lt, PM_le, PM_gt, PM_ge, PM_eqi, PM_nei, own_int, own_bl, own_tup, own_str, PM_isNon, PM_isBl, PM_isnot, PM_tbl, PM_tint, PM_tnon, PM_ttup, PM_lenT, PM_lenF, PM_int, PM_abs, PM_tupT, PM_lstF, PM_ixT, PM_eM, PM_iSeq, PM_seqT, PM_seqF, PM_rng1, PM_rng2, PM_enum, PZ_bind, PZ_nx, PZ_bk, PZ_ct, PZ_rt, SQ_nx, SQ_rt, SQ_ct, SQ_bk, TQ_nx, TQ_ct, TQ_bk, TQ_rt, PZ_seq, PZ_ret, PZ_drop, PZ_if, PZ_asg, PZ_one, PZ_par, PZ_allN, PZ_allC, PZ_tup, PZ_sub, PZ_fld, PZ_for, List.getElem?_cons_zero, List.getElem?_cons_succ, Option.some.injEq, exists_eq_left', exists_eq_left, List.set_cons_zero, List.set_cons_succ, setAll, List.length_cons, List.length_nil, List.map_cons, List.map_nil, Nat.reduceAdd, Nat.reduceSub, List.replicate, List.cons_append, List.nil_append, true_and, and_true, Bool.not_true, Bool.not_false, if_true, if_false, Bool.false_eq_true, D.int.injEq, D.isNon, D.isBl, Nat.reduceLeDiff, dropR_len, Nat.le_refl, ite_true, ite_false, reduceCtorEq, decide_eq_false q1, Bool.false_and]
      · have hf : g1 b (.obj 0 [x, y]) = false := by
          cases x <;> cases y <;> first
            | rfl
            | exact (hab ⟨rfl, rfl⟩).elim
        cases h1 : isW x with
        | false => simp only [PM_ret, PM_bind, PM_guard, PM_slot', PM_eC, PM_eOp, PM_eUn, PM_eT, PM_tV, PM_eAnd, PM_eOr, PM_tAnd, PM_tOr, PM_tNot, PM_eIf, PM_tIf, PM_tCmp, PM_tChn, PM_last, PM_more, PM_aNil, PM_aCons, PM_eTup, PM_eLst, PM_eCall, PM_eNew, PM_eDrop, PM_add, PM_sub, PM_mul, PM_fdiv, PM_mod, PM_pow, PM_neg, PM_lt, PM_le, PM_gt, PM_ge, PM_eqi, PM_nei, own_int, own_bl, own_tup, own_str, PM_isNon, PM_isBl, PM_isnot, PM_tbl, PM_tint, PM_tnon, PM_ttup, PM_lenT, PM_lenF, PM_int, PM_abs, PM_tupT, PM_lstF, PM_ixT, PM_eM, PM_iSeq, PM_seqT, PM_seqF, PM_rng1, PM_rng2, PM_enum, PZ_bind, PZ_nx, PZ_bk, PZ_ct, PZ_rt, SQ_nx, SQ_rt, SQ_ct, SQ_bk, TQ_nx, TQ_ct, TQ_bk, TQ_rt, PZ_seq, PZ_ret, PZ_drop, PZ_if, PZ_asg, PZ_one, PZ_par, PZ_allN, PZ_allC, PZ_tup, PZ_sub, PZ_fld, PZ_for, List.getElem?_cons_zero, List.getElem?_cons_succ, Option.some.injEq, exists_eq_left', exists_eq_left, List.set_cons_zero, List.set_cons_succ, setAll, List.length_cons, List.length_nil, List.map_cons, List.map_nil, Nat.reduceAdd, Nat.reduceSub, List.replicate, List.cons_append, List.nil_append, true_and, and_true, Bool.not_true, Bool.not_false, if_true, if_false, Bool.false_eq_true, D.int.injEq, D.isNon, D.isBl, Nat.reduceLeDiff, dropR_len, Nat.le_refl, ite_true, ite_false, reduceCtorEq]; exact congrArg D.bl hf.symm
        | true =>
          cases h2 : isW y with
          | false => simp only [PM_ret, PM_bind, PM_guard, PM_slot', PM_eC, PM_eOp, PM_eUn, PM_eT, PM_tV, PM_eAnd, PM_eOr, PM_tAnd, PM_tOr, PM_tNot, PM_eIf, PM_tIf, PM_tCmp, PM_tChn, PM_last, PM_more, PM_aNil, PM_aCons, PM_eTup, PM_eLst, PM_eCall, PM_eNew, PM_eDrop, PM_add, PM_sub, PM_mul, PM_fdiv, PM_mod, PM_pow, PM_neg, PM_lt, PM_le, PM_gt, PM_ge, PM_eqi, PM_nei, own_int, own_bl, own_tup, own_str, PM_isNon, PM_isBl, PM_isnot, PM_tbl, PM_tint, PM_tnon, PM_ttup, PM_lenT, PM_lenF, PM_int, PM_abs, PM_tupT, PM_lstF, PM_ixT, PM_eM, PM_iSeq, PM_seqT, PM_seqF, PM_rng1, PM_rng2, PM_enum, PZ_bind, PZ_nx, PZ_bk, PZ_ct, PZ_rt, SQ_nx, SQ_rt, SQ_ct, SQ_bk, TQ_nx, TQ_ct, TQ_bk, TQ_rt, PZ_seq, PZ_ret, PZ_drop, PZ_if, PZ_asg, PZ_one, PZ_par, PZ_allN, PZ_allC, PZ_tup, PZ_sub, PZ_fld, PZ_for, List.getElem?_cons_zero, List.getElem?_cons_succ, Option.some.injEq, exists_eq_left', exists_eq_left, List.set_cons_zero, List.set_cons_succ, setAll, List.length_cons, List.length_nil, List.map_cons, List.map_nil, Nat.reduceAdd, Nat.reduceSub, List.replicate, List.cons_append, List.nil_append, true_and, and_true, Bool.not_true, Bool.not_false, if_true, if_false, Bool.false_eq_true, D.int.injEq, D.isNon, D.isBl, Nat.reduceLeDiff, dropR_len, Nat.le_refl, ite_true, ite_false, reduceCtorEq, s13, PM_fldO fl1, PM_of hw2, h2]; exact congrArg D.bl hf.symm
          | true => exact absurd ⟨h1, h2⟩ hab
end


section
variable {k : Nat} {S : Store} {ρ : En} {Q : D → Store → Prop} {B : Bool → Store → Prop}
def og (n : Int) : D → Option D
  | .tup [.int x, .int y] => if (n - x).fmod y = 0 then none else some (.int 1)
  | _ => none
theorem og_empty {n : Int} : ∀ {dm : List (Int × Nat)}, ((dm.map dD).filterMap (og n)).isEmpty = mt dm n ∧ ∃ ps, toPs ((dm.map dD).filterMap (og n)) = some ps
  | [] => ⟨rfl, _, rfl⟩
  | p :: dm => by
    obtain ⟨h1, ps, h2⟩ := og_empty (n := n) (dm := dm)
    have e : og n (dD p) = if (n - p.1).fmod (p.2 : Int) = 0 then none else some (.int 1) := rfl
    rw [List.map_cons, List.filterMap_cons, e]
    have em : mt (p :: dm) n = (decide ((n - p.1).fmod (p.2 : Int) = 0) && mt dm n) := rfl
    rw [em]
    by_cases hq : (n - p.1).fmod (p.2 : Int) = 0
    · rw [if_pos hq, decide_eq_true hq]
      exact ⟨by rw [Bool.true_and]; exact h1, ps, h2⟩
    · rw [if_neg hq, decide_eq_false hq]
      refine ⟨rfl, .int 1 :: ps, ?_⟩
      show toPs (D.int 1 :: _) = _
      unfold toPs
      rw [h2]; rfl
theorem slots67 {x y : D} (hρ : ρ.length = 19) : (((((ρ.set 7 none).set 6 none).set 6 (some x)).set 7 (some y))[6]? = some (some x)) ∧ (((((ρ.set 7 none).set 6 none).set 6 (some x)).set 7 (some y))[7]? = some (some y)) ∧ ((((ρ.set 7 none).set 6 none).set 6 (some x)).set 7 (some y))[13]? = ρ[13]? := by
  refine ⟨?_, ?_, ?_⟩
  · rw [List.getElem?_set_ne (by decide), List.getElem?_set_self (by simp [hρ])]
  · rw [List.getElem?_set_self (by simp [hρ])]
  · rw [List.getElem?_set_ne (by decide), List.getElem?_set_ne (by decide), List.getElem?_set_ne (by decide), List.getElem?_set_ne (by decide)]
theorem g1_fh {dm : List (Int × Nat)} {v : D} (h : g1 (lc dm) v = false) : fh dm v = false := by
  unfold fh
  split
  · rename_i n b
    have h : (decide (b = (lc dm : Int)) && (decide (0 ≤ n) && decide (n < (lc dm : Int)))) = false := h
    by_cases q1 : b = (lc dm : Int)
    · subst q1
      rw [decide_eq_true rfl, Bool.true_and] at h ⊢
      rw [← Bool.and_assoc, h, Bool.false_and]
    · rw [decide_eq_false q1, Bool.false_and]
  · rfl
theorem g1_true {b : Nat} {v : D} (h : g1 b v = true) : ∃ n : Int, v = .obj 0 [.int n, .int b] ∧ 0 ≤ n ∧ n < b := by
  unfold g1 at h
  split at h
  · rename_i n b'
    rw [Bool.and_eq_true, Bool.and_eq_true, decide_eq_true_eq, decide_eq_true_eq, decide_eq_true_eq] at h
    obtain ⟨rfl, h2, h3⟩ := h
    exact ⟨n, rfl, h2, h3⟩
  · cases h
theorem x_good2 {dm : List (Int × Nat)} {v : D} (hok : ∀ p ∈ dm, okD p) (hl : dm.length ≤ 5) (hp : PenAt 0 1 S) (hρ : ρ.length = 19) (s3 : ρ[3]? = some (some (.tup (dm.map dD)))) (s13 : ρ[13]? = some (some v)) (s14 : ρ[14]? = some (some (.bl (g1 (lc dm) v)))) {C : Calls} :
    PM (eAnd (eSlot 14) (eT (tCmp (cOwn Γ C "__eq__" cEq) (eComp [6, 7] (iSeq (eSlot 3)) (.many [6, 7]) (tCmp (cOwn Γ C "__ne__" cNe) (eOp oMod (eOp oSub (eUn (oFld Γ "number") (eSlot 13)) (eSlot 6)) (eSlot 7)) (eC (.int 0))) (eC (.int 1))) (eLst aNil))) ρ) S fun d S' => d = .bl (fh dm v) ∧ PenAt 0 1 S' := by
  cases hg : g1 (lc dm) v with
  | false =>
    rw [hg] at s14
    simp only [PM_ret, PM_bind, PM_guard, PM_slot', PM_eC, PM_eOp, PM_eUn, PM_eT, PM_tV, PM_eAnd, PM_eOr, PM_tAnd, PM_tOr, PM_tNot, PM_eIf, PM_tIf, PM_tCmp, PM_tChn, PM_last, PM_more, PM_aNil, PM_aCons, PM_eTup, PM_eLst, PM_eCall, PM_eNew, PM_eDrop, PM_add, PM_sub, PM_mul, PM_fdiv, PM_mod, PM_pow, PM_neg, PM_lt, PM_le, PM_gt, PM_ge, PM_eqi, PM_nei, own_int, own_bl, own_tup, own_str, PM_isNon, PM_isBl, PM_isnot, PM_tbl, PM_tint, PM_tnon, PM_ttup, PM_lenT, PM_lenF, PM_int, PM_abs, PM_tupT, PM_lstF, PM_ixT, PM_eM, PM_iSeq, PM_seqT, PM_seqF, PM_rng1, PM_rng2, PM_enum, PZ_bind, PZ_nx, PZ_bk, PZ_ct, PZ_rt, SQ_nx, SQ_rt, SQ_ct, SQ_bk, TQ_nx, TQ_ct, TQ_bk, TQ_rt, PZ_seq, PZ_ret, PZ_drop, PZ_if, PZ_asg, PZ_one, PZ_par, PZ_allN, PZ_allC, PZ_tup, PZ_sub, PZ_fld, PZ_for, List.getElem?_cons_zero, List.getElem?_cons_succ, Option.some.injEq, exists_eq_left', exists_eq_left, List.set_cons_zero, List.set_cons_succ, setAll, List.length_cons, List.length_nil, List.map_cons, List.map_nil, Nat.reduceAdd, Nat.reduceSub, List.replicate, List.cons_append, List.nil_append, true_and, and_true, Bool.not_true, Bool.not_false, if_true, if_false, Bool.false_eq_true, D.int.injEq, D.isNon, D.isBl, Nat.reduceLeDiff, dropR_len, Nat.le_refl, ite_true, ite_false, reduceCtorEq, s14]
    exact ⟨congrArg D.bl (g1_fh hg).symm, hp⟩
  | true =>
    rw [hg] at s14
    obtain ⟨n, rfl, n1, n2⟩ := g1_true hg
    have big0 : 0 ≤ sizeLine := Nat.zero_le _
    simp only [PM_eAnd, PM_slot', s14, PM_ret, PM_bind, PM_guard, PM_slot', PM_eC, PM_eOp, PM_eUn, PM_eT, PM_tV, PM_eAnd, PM_eOr, PM_tAnd, PM_tOr, PM_tNot, PM_eIf, PM_tIf, PM_tCmp, PM_tChn, PM_last, PM_more, PM_aNil, PM_aCons, PM_eTup, PM_eLst, PM_eCall, PM_eNew, PM_eDrop, PM_add, PM_sub, PM_mul, PM_fdiv, PM_mod, PM_pow, PM_neg, PM_lt, PM_le, PM_gt, PM_ge, PM_eqi, PM_nei, own_int, own_bl, own_tup, own_str, PM_isNon, PM_isBl, PM_isnot, PM_tbl, PM_tint, PM_tnon, PM_ttup, PM_lenT, PM_lenF, PM_int, PM_abs, PM_tupT, PM_lstF, PM_ixT, PM_eM, PM_iSeq, PM_seqT, PM_seqF, PM_rng1, PM_rng2, PM_enum, PZ_bind, PZ_nx, PZ_bk, PZ_ct, PZ_rt, SQ_nx, SQ_rt, SQ_ct, SQ_bk, TQ_nx, TQ_ct, TQ_bk, TQ_rt, PZ_seq, PZ_ret, PZ_drop, PZ_if, PZ_asg, PZ_one, PZ_par, PZ_allN, PZ_allC, PZ_tup, PZ_sub, PZ_fld, PZ_for, List.getElem?_cons_zero, List.getElem?_cons_succ, Option.some.injEq, exists_eq_left', exists_eq_left, List.set_cons_zero, List.set_cons_succ, setAll, List.length_cons, List.length_nil, List.map_cons, List.map_nil, Nat.reduceAdd, Nat.reduceSub, List.replicate, List.cons_append, List.nil_append, true_and, and_true, Bool.not_true, Bool.not_false, if_true, if_false, Bool.false_eq_true, D.int.injEq, D.isNon, D.isBl, Nat.reduceLeDiff, dropR_len, Nat.le_refl, ite_true, ite_false, reduceCtorEq]
    refine PM_comp ?_
    simp only [PM_ret, PM_bind, PM_guard, PM_slot', PM_eC, PM_eOp, PM_eUn, PM_eT, PM_tV, PM_eAnd, PM_eOr, PM_tAnd, PM_tOr, PM_tNot, PM_eIf, PM_tIf, PM_tCmp, PM_tChn, PM_last, PM_more, PM_aNil, PM_aCons, PM_eTup, PM_eLst, PM_eCall, PM_eNew, PM_eDrop, PM_add, PM_sub, PM_mul, PM_fdiv, PM_mod, PM_pow, PM_neg, PM_lt, PM_le, PM_gt, PM_ge, PM_eqi, PM_nei, own_int, own_bl, own_tup, own_str, PM_isNon, PM_isBl, PM_isnot, PM_tbl, PM_tint, PM_tnon, PM_ttup, PM_lenT, PM_lenF, PM_int, PM_abs, PM_tupT, PM_lstF, PM_ixT, PM_eM, PM_iSeq, PM_seqT, PM_seqF, PM_rng1, PM_rng2, PM_enum, PZ_bind, PZ_nx, PZ_bk, PZ_ct, PZ_rt, SQ_nx, SQ_rt, SQ_ct, SQ_bk, TQ_nx, TQ_ct, TQ_bk, TQ_rt, PZ_seq, PZ_ret, PZ_drop, PZ_if, PZ_asg, PZ_one, PZ_par, PZ_allN, PZ_allC, PZ_tup, PZ_sub, PZ_fld, PZ_for, List.getElem?_cons_zero, List.getElem?_cons_succ, Option.some.injEq, exists_eq_left', exists_eq_left, List.set_cons_zero, List.set_cons_succ, setAll, List.length_cons, List.length_nil, List.map_cons, List.map_nil, Nat.reduceAdd, Nat.reduceSub, List.replicate, List.cons_append, List.nil_append, true_and, and_true, Bool.not_true, Bool.not_false, if_true, if_false, Bool.false_eq_true, D.int.injEq, D.isNon, D.isBl, Nat.reduceLeDiff, dropR_len, Nat.le_refl, ite_true, ite_false, reduceCtorEq, s3]
    refine ⟨by rw [List.length_map]; have := sizeLine_big; omega, og n, fun _ => trivial, fun d hd => ?_, ?_⟩
    · obtain ⟨p, hpm, rfl⟩ := List.mem_map.mp hd
      have hb : (p.2 : Int) ≠ 0 := by have := (hok p hpm).2.2.1; omega
      obtain ⟨t1, t2, t3⟩ := slots67 (ρ := ρ) (x := .int p.1) (y := .int (p.2 : Int)) hρ
      rw [s13] at t3
      refine ⟨(((ρ.set 7 none).set 6 none).set 6 (some (.int p.1))).set 7 (some (.int (p.2 : Int))), rfl, fun acc => ?_⟩
      have e : og n (dD p) = if (n - p.1).fmod (p.2 : Int) = 0 then none else some (.int 1) := rfl
      rw [e]
      simp only [PM_ret, PM_bind, PM_guard, PM_slot', PM_eC, PM_eOp, PM_eUn, PM_eT, PM_tV, PM_eAnd, PM_eOr, PM_tAnd, PM_tOr, PM_tNot, PM_eIf, PM_tIf, PM_tCmp, PM_tChn, PM_last, PM_more, PM_aNil, PM_aCons, PM_eTup, PM_eLst, PM_eCall, PM_eNew, PM_eDrop, PM_add, PM_sub, PM_mul, PM_fdiv, PM_mod, PM_pow, PM_neg, PM_lt, PM_le, PM_gt, PM_ge, PM_eqi, PM_nei, own_int, own_bl, own_tup, own_str, PM_isNon, PM_isBl, PM_isnot, PM_tbl, PM_tint, PM_tnon, PM_ttup, PM_lenT, PM_lenF, PM_int, PM_abs, PM_tupT, PM_lstF, PM_ixT, PM_eM, PM_iSeq, PM_seqT, PM_seqF, PM_rng1, PM_rng2, PM_enum, PZ_bind, PZ_nx, PZ_bk, PZ_ct, PZ_rt, SQ_nx, SQ_rt, SQ_ct, SQ_bk, TQ_nx, TQ_ct, TQ_bk, TQ_rt, PZ_seq, PZ_ret, PZ_drop, PZ_if, PZ_asg, PZ_one, PZ_par, PZ_allN, PZ_allC, PZ_tup, PZ_sub, PZ_fld, PZ_for, List.getElem?_cons_zero, List.getElem?_cons_succ, Option.some.injEq, exists_eq_left', exists_eq_left, List.set_cons_zero, List.set_cons_succ, setAll, List.length_cons, List.length_nil, List.map_cons, List.map_nil, Nat.reduceAdd, Nat.reduceSub, List.replicate, List.cons_append, List.nil_append, true_and, and_true, Bool.not_true, Bool.not_false, if_true, if_false, Bool.false_eq_true, D.int.injEq, D.isNon, D.isBl, Nat.reduceLeDiff, dropR_len, Nat.le_refl, ite_true, ite_false, reduceCtorEq, t1, t2, t3, PM_fldO fl0]
      refine ⟨hb, ?_⟩
      by_cases hq : (n - p.1).fmod (p.2 : Int) = 0
      · simp [hq]
      · simp [hq, PM_ret, PM_bind, PM_guard, PM_slot', PM_eC, PM_eOp, PM_eUn, PM_eT, PM_tV, PM_eAnd, PM_eOr, PM_tAnd, PM_tOr, PM_tNot, PM_eIf, PM_tIf, PM_tCmp, PM_tChn, PM_last, PM_more, PM_aNil, PM_aCons, PM_eTup, PM_eLst, PM_eCall, PM_eNew, PM_eDrop, PM_add, PM_sub, PM_mul, PM_fdiv, PM_mod, PM_pow, PM_neg, PM_lt, PM_le, PM_gt, PM_ge, PM_eqi, PM_nei, own_int, own_bl, own_tup, own_str, PM_isNon, PM_isBl, PM_isnot, PM_tbl, PM_tint, PM_tnon, PM_ttup, PM_lenT, PM_lenF, PM_int, PM_abs, PM_tupT, PM_lstF, PM_ixT, PM_eM, PM_iSeq, PM_seqT, PM_seqF, PM_rng1, PM_rng2, PM_enum, PZ_bind, PZ_nx, PZ_bk, PZ_ct, PZ_rt, SQ_nx, SQ_rt, SQ_ct, SQ_bk, TQ_nx, TQ_ct, TQ_bk, TQ_rt, PZ_seq, PZ_ret, PZ_drop, PZ_if, PZ_asg, PZ_one, PZ_par, PZ_allN, PZ_allC, PZ_tup, PZ_sub, PZ_fld, PZ_for, List.getElem?_cons_zero, List.getElem?_cons_succ, Option.some.injEq, exists_eq_left', exists_eq_left, List.set_cons_zero, List.set_cons_succ, setAll, List.length_cons, List.length_nil, List.map_cons, List.map_nil, Nat.reduceAdd, Nat.reduceSub, List.replicate, List.cons_append, List.nil_append, true_and, and_true, Bool.not_true, Bool.not_false, if_true, if_false, Bool.false_eq_true, D.int.injEq, D.isNon, D.isBl, Nat.reduceLeDiff, dropR_len, Nat.le_refl, ite_true, ite_false, reduceCtorEq]
    · obtain ⟨o1, ps, o2⟩ := og_empty (n := n) (dm := dm)
      simp only [PM_ret, PM_bind, PM_guard, PM_slot', PM_eC, PM_eOp, PM_eUn, PM_eT, PM_tV, PM_eAnd, PM_eOr, PM_tAnd, PM_tOr, PM_tNot, PM_eIf, PM_tIf, PM_tCmp, PM_tChn, PM_last, PM_more, PM_aNil, PM_aCons, PM_eTup, PM_eLst, PM_eCall, PM_eNew, PM_eDrop, PM_add, PM_sub, PM_mul, PM_fdiv, PM_mod, PM_pow, PM_neg, PM_lt, PM_le, PM_gt, PM_ge, PM_eqi, PM_nei, own_int, own_bl, own_tup, own_str, PM_isNon, PM_isBl, PM_isnot, PM_tbl, PM_tint, PM_tnon, PM_ttup, PM_lenT, PM_lenF, PM_int, PM_abs, PM_tupT, PM_lstF, PM_ixT, PM_eM, PM_iSeq, PM_seqT, PM_seqF, PM_rng1, PM_rng2, PM_enum, PZ_bind, PZ_nx, PZ_bk, PZ_ct, PZ_rt, SQ_nx, SQ_rt, SQ_ct, SQ_bk, TQ_nx, TQ_ct, TQ_bk, TQ_rt, PZ_seq, PZ_ret, PZ_drop, PZ_if, PZ_asg, PZ_one, PZ_par, PZ_allN, PZ_allC, PZ_tup, PZ_sub, PZ_fld, PZ_for, List.getElem?_cons_zero, List.getElem?_cons_succ, Option.some.injEq, exists_eq_left', exists_eq_left, List.set_cons_zero, List.set_cons_succ, setAll, List.length_cons, List.length_nil, List.map_cons, List.map_nil, Nat.reduceAdd, Nat.reduceSub, List.replicate, List.cons_append, List.nil_append, true_and, and_true, Bool.not_true, Bool.not_false, if_true, if_false, Bool.false_eq_true, D.int.injEq, D.isNon, D.isBl, Nat.reduceLeDiff, dropR_len, Nat.le_refl, ite_true, ite_false, reduceCtorEq, big0]
      rw [PM_ownL (get_ap get_last), PM_eqNil (get_ap get_last) get_last o2, o1]
      refine ⟨?_, hp.ap.ap⟩
      have : fh dm (.obj 0 [.int n, .int (lc dm : Int)]) = (decide ((lc dm : Int) = (lc dm : Int)) && (decide (0 ≤ n) && (decide (n < (lc dm : Int)) && mt dm n))) := rfl
      rw [this, decide_eq_true rfl, decide_eq_true n1, decide_eq_true n2]; rfl
theorem x_at {dm : List (Int × Nat)} {t : D} (ht : toldD t) (hl : dm.length ≤ 5) (hp : PenAt 0 1 S) (s1 : ρ[1]? = some (some (.ref 0))) (s3 : ρ[3]? = some (some (.tup (dm.map dD)))) (s4 : ρ[4]? = some (some t)) :
    PM (eIf (tV (eOp (fIsi Γ) (eSlot 4) (eC (.cls 1)))) (eTup (aCons (eUn (oFld Γ "one") (eSlot 4)) (aCons (eUn (oFld Γ "other") (eSlot 4)) aNil))) (eTup (aCons (eCall (CC (k + 1)) 23 2 (aCons (eSlot 1) (aCons (eOp oAdd (eUn fLen (eSlot 3)) (eC (.int 1))) aNil))) (aCons (eCall (CC (k + 1)) 23 2 (aCons (eSlot 1) (aCons (eOp oAdd (eUn fLen (eSlot 3)) (eC (.int 1))) aNil))) aNil))) ρ) S fun d S' => ∃ i j : Int, d = .tup [.int i, .int j] ∧ PenAt 0 1 S' := by
  rcases ht with ⟨n, b, rfl, n1, n2⟩ | ⟨i, j, rfl⟩
  · have e00 : ((0 : Nat) == 1) = false := rfl
    have hm : (1 : Int) ≤ ((dm.map dD).length : Int) + 1 := by omega
    have hm2 : ((dm.map dD).length : Int) + 1 < 2 ^ 64 := by rw [List.length_map]; omega
    simp only [PM_ret, PM_bind, PM_guard, PM_slot', PM_eC, PM_eOp, PM_eUn, PM_eT, PM_tV, PM_eAnd, PM_eOr, PM_tAnd, PM_tOr, PM_tNot, PM_eIf, PM_tIf, PM_tCmp, PM_tChn, PM_last, PM_more, PM_aNil, PM_aCons, PM_eTup, PM_eLst, PM_eCall, PM_eNew, PM_eDrop, PM_add, PM_sub, PM_mul, PM_fdiv, PM_mod, PM_pow, PM_neg, PM_lt, PM_le, PM_gt, PM_ge, PM_eqi, PM_nei, own_int, own_bl, own_tup, own_str, PM_isNon, PM_isBl, PM_isnot, PM_tbl, PM_tint, PM_tnon, PM_ttup, PM_lenT, PM_lenF, PM_int, PM_abs, PM_tupT, PM_lstF, PM_ixT, PM_eM, PM_iSeq, PM_seqT, PM_seqF, PM_rng1, PM_rng2, PM_enum, PZ_bind, PZ_nx, PZ_bk, PZ_ct, PZ_rt, SQ_nx, SQ_rt, SQ_ct, SQ_bk, TQ_nx, TQ_ct, TQ_bk, TQ_rt, PZ_seq, PZ_ret, PZ_drop, PZ_if, PZ_asg, PZ_one, PZ_par, PZ_allN, PZ_allC, PZ_tup, PZ_sub, PZ_fld, PZ_for, List.getElem?_cons_zero, List.getElem?_cons_succ, Option.some.injEq, exists_eq_left', exists_eq_left, List.set_cons_zero, List.set_cons_succ, setAll, List.length_cons, List.length_nil, List.map_cons, List.map_nil, Nat.reduceAdd, Nat.reduceSub, List.replicate, List.cons_append, List.nil_append, true_and, and_true, Bool.not_true, Bool.not_false, if_true, if_false, Bool.false_eq_true, D.int.injEq, D.isNon, D.isBl, Nat.reduceLeDiff, dropR_len, Nat.le_refl, ite_true, ite_false, reduceCtorEq, s1, s3, s4, PM_isiO (Γ := Γ) (i := 0) (j := 1) c0 c1, e00]
    refine (e_draw (k := k) hp hm hm2).imp ?_
    rintro d S1 ⟨⟨u, rfl, i1, i2⟩, hd⟩
    refine (e_draw (k := k) hd.1 hm hm2).imp ?_
    rintro d S2 ⟨⟨v, rfl, j1, j2⟩, hd2⟩
    exact ⟨big2, u, v, rfl, hd2.1⟩
  · have e10 : ((1 : Nat) == 1) = true := rfl
    simp only [PM_ret, PM_bind, PM_guard, PM_slot', PM_eC, PM_eOp, PM_eUn, PM_eT, PM_tV, PM_eAnd, PM_eOr, PM_tAnd, PM_tOr, PM_tNot, PM_eIf, PM_tIf, PM_tCmp, PM_tChn, PM_last, PM_more, PM_aNil, PM_aCons, PM_eTup, PM_eLst, PM_eCall, PM_eNew, PM_eDrop, PM_add, PM_sub, PM_mul, PM_fdiv, PM_mod, PM_pow, PM_neg, PM_lt, PM_le, PM_gt, PM_ge, PM_eqi, PM_nei, own_int, own_bl, own_tup, own_str, PM_isNon, PM_isBl, PM_isnot, PM_tbl, PM_tint, PM_tnon, PM_ttup, PM_lenT, PM_lenF, PM_int, PM_abs, PM_tupT, PM_lstF, PM_ixT, PM_eM, PM_iSeq, PM_seqT, PM_seqF, PM_rng1, PM_rng2, PM_enum, PZ_bind, PZ_nx, PZ_bk, PZ_ct, PZ_rt, SQ_nx, SQ_rt, SQ_ct, SQ_bk, TQ_nx, TQ_ct, TQ_bk, TQ_rt, PZ_seq, PZ_ret, PZ_drop, PZ_if, PZ_asg, PZ_one, PZ_par, PZ_allN, PZ_allC, PZ_tup, PZ_sub, PZ_fld, PZ_for, List.getElem?_cons_zero, List.getElem?_cons_succ, Option.some.injEq, exists_eq_left', exists_eq_left, List.set_cons_zero, List.set_cons_succ, setAll, List.length_cons, List.length_nil, List.map_cons, List.map_nil, Nat.reduceAdd, Nat.reduceSub, List.replicate, List.cons_append, List.nil_append, true_and, and_true, Bool.not_true, Bool.not_false, if_true, if_false, Bool.false_eq_true, D.int.injEq, D.isNon, D.isBl, Nat.reduceLeDiff, dropR_len, Nat.le_refl, ite_true, ite_false, reduceCtorEq, s4, PM_isiO (Γ := Γ) (i := 1) (j := 1) c1 c1, e10, PM_fldO fl2, PM_fldO fl3, big2]
    exact ⟨_, _, rfl, hp⟩
def g3 (m : Nat) : D → Bool
  | .obj 1 [.int i, .int j] => decide (0 ≤ i) && (decide (i < j) && decide (j < (m : Int)))
  | _ => false
theorem x_good3 {dm : List (Int × Nat)} {v : D} (hv : AskD v) (s13 : ρ[13]? = some (some v)) (s3 : ρ[3]? = some (some (.tup (dm.map dD)))) :
    PM (eAnd (eOp (fIsi Γ) (eSlot 13) (eC (.cls 1))) (eAnd (eCall (CC (k + 1)) 26 1 (aCons (eUn (oFld Γ "one") (eSlot 13)) aNil)) (eAnd (eCall (CC (k + 1)) 26 1 (aCons (eUn (oFld Γ "other") (eSlot 13)) aNil)) (eT (tChn (eC (.int 0)) (.more cLe (eUn (oFld Γ "one") (eSlot 13)) (.more cLt (eUn (oFld Γ "other") (eSlot 13)) (.last cLt (eUn fLen (eSlot 3))))))))) ρ) S fun d S' => d = .bl (g3 dm.length v) ∧ S' = S := by
  cases hv with
  | non => simp only [PM_ret, PM_bind, PM_guard, PM_slot', PM_eC, PM_eOp, PM_eUn, PM_eT, PM_tV, PM_eAnd, PM_eOr, PM_tAnd, PM_tOr, PM_tNot, PM_eIf, PM_tIf, PM_tCmp, PM_tChn, PM_last, PM_more, PM_aNil, PM_aCons, PM_eTup, PM_eLst, PM_eCall, PM_eNew, PM_eDrop, PM_add, PM_sub, PM_mul, PM_fdiv, PM_mod, PM_pow, PM_neg, PM_lt, PM_le, PM_gt, PM_ge, PM_eqi, PM_nei, own_int, own_bl, own_tup, own_str, PM_isNon, PM_isBl, PM_isnot, PM_tbl, PM_tint, PM_tnon, PM_ttup, PM_lenT, PM_lenF, PM_int, PM_abs, PM_tupT, PM_lstF, PM_ixT, PM_eM, PM_iSeq, PM_seqT, PM_seqF, PM_rng1, PM_rng2, PM_enum, PZ_bind, PZ_nx, PZ_bk, PZ_ct, PZ_rt, SQ_nx, SQ_rt, SQ_ct, SQ_bk, TQ_nx, TQ_ct, TQ_bk, TQ_rt, PZ_seq, PZ_ret, PZ_drop, PZ_if, PZ_asg, PZ_one, PZ_par, PZ_allN, PZ_allC, PZ_tup, PZ_sub, PZ_fld, PZ_for, List.getElem?_cons_zero, List.getElem?_cons_succ, Option.some.injEq, exists_eq_left', exists_eq_left, List.set_cons_zero, List.set_cons_succ, setAll, List.length_cons, List.length_nil, List.map_cons, List.map_nil, Nat.reduceAdd, Nat.reduceSub, List.replicate, List.cons_append, List.nil_append, true_and, and_true, Bool.not_true, Bool.not_false, if_true, if_false, Bool.false_eq_true, D.int.injEq, D.isNon, D.isBl, Nat.reduceLeDiff, dropR_len, Nat.le_refl, ite_true, ite_false, reduceCtorEq, s13, isi_n c1]; rfl
  | int i => simp only [PM_ret, PM_bind, PM_guard, PM_slot', PM_eC, PM_eOp, PM_eUn, PM_eT, PM_tV, PM_eAnd, PM_eOr, PM_tAnd, PM_tOr, PM_tNot, PM_eIf, PM_tIf, PM_tCmp, PM_tChn, PM_last, PM_more, PM_aNil, PM_aCons, PM_eTup, PM_eLst, PM_eCall, PM_eNew, PM_eDrop, PM_add, PM_sub, PM_mul, PM_fdiv, PM_mod, PM_pow, PM_neg, PM_lt, PM_le, PM_gt, PM_ge, PM_eqi, PM_nei, own_int, own_bl, own_tup, own_str, PM_isNon, PM_isBl, PM_isnot, PM_tbl, PM_tint, PM_tnon, PM_ttup, PM_lenT, PM_lenF, PM_int, PM_abs, PM_tupT, PM_lstF, PM_ixT, PM_eM, PM_iSeq, PM_seqT, PM_seqF, PM_rng1, PM_rng2, PM_enum, PZ_bind, PZ_nx, PZ_bk, PZ_ct, PZ_rt, SQ_nx, SQ_rt, SQ_ct, SQ_bk, TQ_nx, TQ_ct, TQ_bk, TQ_rt, PZ_seq, PZ_ret, PZ_drop, PZ_if, PZ_asg, PZ_one, PZ_par, PZ_allN, PZ_allC, PZ_tup, PZ_sub, PZ_fld, PZ_for, List.getElem?_cons_zero, List.getElem?_cons_succ, Option.some.injEq, exists_eq_left', exists_eq_left, List.set_cons_zero, List.set_cons_succ, setAll, List.length_cons, List.length_nil, List.map_cons, List.map_nil, Nat.reduceAdd, Nat.reduceSub, List.replicate, List.cons_append, List.nil_append, true_and, and_true, Bool.not_true, Bool.not_false, if_true, if_false, Bool.false_eq_true, D.int.injEq, D.isNon, D.isBl, Nat.reduceLeDiff, dropR_len, Nat.le_refl, ite_true, ite_false, reduceCtorEq, s13, isi_i c1]; rfl
  | ob c x y hc ha hb =>
    match c, hc with
    | 0, _ =>
      have e10 : ((0 : Nat) == 1) = false := rfl
      simp only [PM_ret, PM_bind, PM_guard, PM_slot', PM_eC, PM_eOp, PM_eUn, PM_eT, PM_tV, PM_eAnd, PM_eOr, PM_tAnd, PM_tOr, PM_tNot, PM_eIf, PM_tIf, PM_tCmp, PM_tChn, PM_last, PM_more, PM_aNil, PM_aCons, PM_eTup, PM_eLst, PM_eCall, PM_eNew, PM_eDrop, PM_add, PM_sub, PM_mul, PM_fdiv, PM_mod, PM_pow, PM_neg, PM_lt, PM_le, PM_gt, PM_ge, PM_eqi, PM_nei, own_int, own_bl, own_tup, own_str, PM_isNon, PM_isBl, PM_isnot, PM_tbl, PM_tint, PM_tnon, PM_ttup, PM_lenT, PM_lenF, PM_int, PM_abs, PM_tupT, PM_lstF, PM_ixT, PM_eM, PM_iSeq, PM_seqT, PM_seqF, PM_rng1, PM_rng2, PM_enum, PZ_bind, PZ_nx, PZ_bk, PZ_ct, PZ_rt, SQ_nx, SQ_rt, SQ_ct, SQ_bk, TQ_nx, TQ_ct, TQ_bk, TQ_rt, PZ_seq, PZ_ret, PZ_drop, PZ_if, PZ_asg, PZ_one, PZ_par, PZ_allN, PZ_allC, PZ_tup, PZ_sub, PZ_fld, PZ_for, List.getElem?_cons_zero, List.getElem?_cons_succ, Option.some.injEq, exists_eq_left', exists_eq_left, List.set_cons_zero, List.set_cons_succ, setAll, List.length_cons, List.length_nil, List.map_cons, List.map_nil, Nat.reduceAdd, Nat.reduceSub, List.replicate, List.cons_append, List.nil_append, true_and, and_true, Bool.not_true, Bool.not_false, if_true, if_false, Bool.false_eq_true, D.int.injEq, D.isNon, D.isBl, Nat.reduceLeDiff, dropR_len, Nat.le_refl, ite_true, ite_false, reduceCtorEq, s13, PM_isiO (Γ := Γ) (i := 0) (j := 1) c0 c1, e10]; rfl
    | 1, _ =>
      have e00 : ((1 : Nat) == 1) = true := rfl
      have hw1 := e_lwhole (k := k) (S := S) ha
      have hw2 := e_lwhole (k := k) (S := S) hb
      simp only [PM_ret, PM_bind, PM_guard, PM_slot', PM_eC, PM_eOp, PM_eUn, PM_eT, PM_tV, PM_eAnd, PM_eOr, PM_tAnd, PM_tOr, PM_tNot, PM_eIf, PM_tIf, PM_tCmp, PM_tChn, PM_last, PM_more, PM_aNil, PM_aCons, PM_eTup, PM_eLst, PM_eCall, PM_eNew, PM_eDrop, PM_add, PM_sub, PM_mul, PM_fdiv, PM_mod, PM_pow, PM_neg, PM_lt, PM_le, PM_gt, PM_ge, PM_eqi, PM_nei, own_int, own_bl, own_tup, own_str, PM_isNon, PM_isBl, PM_isnot, PM_tbl, PM_tint, PM_tnon, PM_ttup, PM_lenT, PM_lenF, PM_int, PM_abs, PM_tupT, PM_lstF, PM_ixT, PM_eM, PM_iSeq, PM_seqT, PM_seqF, PM_rng1, PM_rng2, PM_enum, PZ_bind, PZ_nx, PZ_bk, PZ_ct, PZ_rt, SQ_nx, SQ_rt, SQ_ct, SQ_bk, TQ_nx, TQ_ct, TQ_bk, TQ_rt, PZ_seq, PZ_ret, PZ_drop, PZ_if, PZ_asg, PZ_one, PZ_par, PZ_allN, PZ_allC, PZ_tup, PZ_sub, PZ_fld, PZ_for, List.getElem?_cons_zero, List.getElem?_cons_succ, Option.some.injEq, exists_eq_left', exists_eq_left, List.set_cons_zero, List.set_cons_succ, setAll, List.length_cons, List.length_nil, List.map_cons, List.map_nil, Nat.reduceAdd, Nat.reduceSub, List.replicate, List.cons_append, List.nil_append, true_and, and_true, Bool.not_true, Bool.not_false, if_true, if_false, Bool.false_eq_true, D.int.injEq, D.isNon, D.isBl, Nat.reduceLeDiff, dropR_len, Nat.le_refl, ite_true, ite_false, reduceCtorEq, s13, s3, PM_isiO (Γ := Γ) (i := 1) (j := 1) c1 c1, e00, PM_fldO fl2, PM_fldO fl3, PM_of hw1, PM_of hw2, List.length_map]
      by_cases hab : isW x = true ∧ isW y = true
      · obtain ⟨i, j, rfl, rfl⟩ := w_or ha hb hab
        have i1 : isW (.int i) = true := rfl
        have i2 : isW (.int j) = true := rfl
        simp only [PM_ret, PM_bind, PM_guard, PM_slot', PM_eC, PM_eOp, PM_eUn, PM_eT, PM_tV, PM_eAnd, PM_eOr, PM_tAnd, PM_tOr, PM_tNot, PM_eIf, PM_tIf, PM_tCmp, PM_tChn, PM_last, PM_more, PM_aNil, PM_aCons, PM_eTup, PM_eLst, PM_eCall, PM_eNew, PM_eDrop, PM_add, PM_sub, PM_mul, PM_fdiv, PM_mod, PM_pow, PM_neg, PM_lt, PM_le, PM_gt, PM_ge, PM_eqi, PM_nei, own_int, own_bl, own_tup, own_str, PM_isNon, PM_isBl, PM_isnot, PM_tbl, PM_tint, PM_tnon, PM_ttup, PM_lenT, PM_lenF, PM_int, PM_abs, PM_tupT, PM_lstF, PM_ixT, PM_eM, PM_iSeq, PM_seqT, PM_seqF, PM_rng1, PM_rng2, PM_enum, PZ_bind, PZ_nx, PZ_bk, PZ_ct, PZ_rt, SQ_nx, SQ_rt, SQ_ct, SQ_bk, TQ_nx, TQ_ct, TQ_bk, TQ_rt, PZ_seq, PZ_ret, PZ_drop, PZ_if, PZ_asg, PZ_one, PZ_par, PZ_allN, PZ_allC, PZ_tup, PZ_sub, PZ_fld, PZ_for, List.getElem?_cons_zero, List.getElem?_cons_succ, Option.some.injEq, exists_eq_left', exists_eq_left, List.set_cons_zero, List.set_cons_succ, setAll, List.length_cons, List.length_nil, List.map_cons, List.map_nil, Nat.reduceAdd, Nat.reduceSub, List.replicate, List.cons_append, List.nil_append, true_and, and_true, Bool.not_true, Bool.not_false, if_true, if_false, Bool.false_eq_true, D.int.injEq, D.isNon, D.isBl, Nat.reduceLeDiff, dropR_len, Nat.le_refl, ite_true, ite_false, reduceCtorEq, i1, i2, s13, PM_fldO fl2, PM_fldO fl3]
        unfold g3
        by_cases q1 : 0 ≤ i
        · by_cases q2 : i < j
          · simp only [PM_ret, PM_bind, PM_guard, PM_slot', PM_eC, PM_eOp, PM_eUn, PM_eT, PM_tV, PM_eAnd, PM_eOr, PM_tAnd, PM_tOr, PM_tNot, PM_eIf, PM_tIf, PM_tCmp, PM_tChn, PM_last, PM_more, PM_aNil, PM_aCons, PM_eTup, PM_eLst, PM_eCall, PM_eNew, PM_eDrop, PM_add, PM_sub, PM_mul, PM_fdiv, PM_mod, PM_pow, PM_neg, PM_lt, PM_le, PM_gt, PM_ge, PM_eqi, PM_nei, own_int, own_bl, own_tup, own_str, PM_isNon, PM_isBl, PM_isnot, PM_tbl, PM_tint, PM_tnon, PM_ttup, PM_lenT, PM_lenF, PM_int, PM_abs, PM_tupT, PM_lstF, PM_ixT, PM_eM, PM_iSeq, PM_seqT, PM_seqF, PM_rng1, PM_rng2, PM_enum, PZ_bind, PZ_nx, PZ_bk, PZ_ct, PZ_rt, SQ_nx, SQ_rt, SQ_ct, SQ_bk, TQ_nx, TQ_ct, TQ_bk, TQ_rt, PZ_seq, PZ_ret, PZ_drop, PZ_if, PZ_asg, PZ_one, PZ_par, PZ_allN, PZ_allC, PZ_tup, PZ_sub, PZ_fld, PZ_for, List.getElem?_cons_zero, List.getElem?_cons_succ, Option.some.injEq, exists_eq_left', exists_eq_left, List.set_cons_zero, List.set_cons_succ, setAll, List.length_cons, List.length_nil, List.map_cons, List.map_nil, Nat.reduceAdd, Nat.reduceSub, List.replicate, List.cons_append, List.nil_append, true_and, and_true, Bool.not_true, Bool.not_false, if_true, if_false, Bool.false_eq_true, D.int.injEq, D.isNon, D.isBl, Nat.reduceLeDiff, dropR_len, Nat.le_refl, ite_true, ite_false, reduceCtorEq, decide_eq_true q1, decide_eq_true q2, Bool.true_and, s13, s3, PM_fldO fl3, List.length_map]
          · simp only [PM_ret, PM_bind, PM_guard, PM_slot', PM_eC, PM_eOp, PM_eUn, PM_eT, PM_tV, PM_eAnd, PM_eOr, PM_tAnd, PM_tOr, PM_tNot, PM_eIf, PM_tIf, PM_tCmp, PM_tChn, PM_last, PM_more, PM_aNil, PM_aCons, PM_eTup, PM_eLst, PM_eCall, PM_eNew, PM_eDrop, PM_add, PM_sub, PM_mul, PM_fdiv, PM_mod, PM_pow, PM_neg, PM_lt, PM_le, PM_gt, PM_ge, PM_eqi, PM_nei, own_int, own_bl, own_tup, own_str, PM_isNon, PM_isBl, PM_isnot, PM_tbl, PM_tint, PM_tnon, PM_ttup, PM_lenT, PM_lenF, PM_int, PM_abs, PM_tupT, PM_lstF, PM_ixT, PM_eM, PM_iSeq, PM_seqT, PM_seqF, PM_rng1, PM_rng2, PM_enum, PZ_bind, PZ_nx, PZ_bk, PZ_ct, PZ_rt, SQ_nx, SQ_rt, SQ_ct, SQ_bk, TQ_nx, TQ_ct, TQ_bk, TQ_rt, PZ_seq, PZ_ret, PZ_drop, PZ_if, PZ_asg, PZ_one, PZ_par, PZ_allN, PZ_allC, PZ_tup, PZ_sub, PZ_fld, PZ_for, List.getElem?_cons_zero, List.getElem?_cons_succ, Option.some.injEq, exists_eq_left', exists_eq_left, List.set_cons_zero, List.set_cons_succ, setAll, List.length_cons, List.length_nil, List.map_cons, List.map_nil, Nat.reduceAdd, Nat.reduceSub, List.replicate, List.cons_append, List.nil_append, true_and, and_true, Bool.not_true, Bool.not_false, if_true, if_false, Bool.false_eq_true, D.int.injEq, D.isNon, D.isBl, Nat.reduceLeDiff, dropR_len, Nat.le_refl, ite_true, ite_false, reduceCtorEq, decide_eq_true q1, decide_eq_false q2, Bool.true_and, Bool.false_and, s13, PM_fldO fl3]
        · simp only [PM_ret, PM_bind, PM_guard, PM_slot', PM_eC, PM_eOp, PM_eUn, PM_eT, PM_tV, PM_eAnd, PM_eOr, PM_tAnd, PM_tOr, PM_tNot, PM_eIf, PM_tIf, PM_tCmp, PM_tChn, PM_last, PM_more, PM_aNil, PM_aCons, PM_eTup, PM_eLst, PM_eCall, PM_eNew, PM_eDrop, PM_add, PM_sub, PM_mul, PM_fdiv, PM_mod, PM_pow, PM_neg, PM_lt, PM_le, PM_gt, PM_ge, PM_eqi, PM_nei, own_int, own_bl, own_tup, own_str, PM_isNon, PM_isBl, PM_isnot, PM_tbl, PM_tint, PM_tnon, PM_ttup, PM_lenT, PM_lenF, PM_int, PM_abs, PM_tupT, PM_lstF, PM_ixT, PM_eM, PM_iSeq, PM_seqT, PM_seqF, PM_rng1, PM_rng2, PM_enum, PZ_bind, PZ_nx, PZ_bk, PZ_ct, PZ_rt, SQ_nx, SQ_rt, SQ_ct, SQ_bk, TQ_nx, TQ_ct, TQ_bk, TQ_rt, PZ_seq, PZ_ret, PZ_drop, PZ_if, PZ_asg, PZ_one, PZ_par, PZ_allN, PZ_allC, PZ_tup, PZ_sub, PZ_fld, PZ_for, List.getElem?_cons_zero, List.getElem?_cons_succ, Option.some.injEq, exists_eq_left', exists_eq_left, List.set_cons_zero, List.set_cons_succ, setAll, List.length_cons, List.length_nil, List.map_cons, List.map_nil, Nat.reduceAdd, Nat.reduceSub, List.replicate, List.cons_append, List.nil_append, true_and, and_true, Bool.not_true, Bool.not_false, if_true, if_false, Bool.false_eq_true, D.int.injEq, D.isNon, D.isBl, Nat.reduceLeDiff, dropR_len, Nat.le_refl, ite_true, ite_false, reduceCtorEq, decide_eq_false q1, Bool.false_and]
      · have hf : g3 dm.length (.obj 1 [x, y]) = false := by
          cases x <;> cases y <;> first
            | rfl
            | exact (hab ⟨rfl, rfl⟩).elim
        cases h1 : isW x with
        | false => simp only [PM_ret, PM_bind, PM_guard, PM_slot', PM_eC, PM_eOp, PM_eUn, PM_eT, PM_tV, PM_eAnd, PM_eOr, PM_tAnd, PM_tOr, PM_tNot, PM_eIf, PM_tIf, PM_tCmp, PM_tChn, PM_last, PM_more, PM_aNil, PM_aCons, PM_eTup, PM_eLst, PM_eCall, PM_eNew, PM_eDrop, PM_add, PM_sub, PM_mul, PM_fdiv, PM_mod, PM_pow, PM_neg, PM_lt, PM_le, PM_gt, PM_ge, PM_eqi, PM_nei, own_int, own_bl, own_tup, own_str, PM_isNon, PM_isBl, PM_isnot, PM_tbl, PM_tint, PM_tnon, PM_ttup, PM_lenT, PM_lenF, PM_int, PM_abs, PM_tupT, PM_lstF, PM_ixT, PM_eM, PM_iSeq, PM_seqT, PM_seqF, PM_rng1, PM_rng2, PM_enum, PZ_bind, PZ_nx, PZ_bk, PZ_ct, PZ_rt, SQ_nx, SQ_rt, SQ_ct, SQ_bk, TQ_nx, TQ_ct, TQ_bk, TQ_rt, PZ_seq, PZ_ret, PZ_drop, PZ_if, PZ_asg, PZ_one, PZ_par, PZ_allN, PZ_allC, PZ_tup, PZ_sub, PZ_fld, PZ_for, List.getElem?_cons_zero, List.getElem?_cons_succ, Option.some.injEq, exists_eq_left', exists_eq_left, List.set_cons_zero, List.set_cons_succ, setAll, List.length_cons, List.length_nil, List.map_cons, List.map_nil, Nat.reduceAdd, Nat.reduceSub, List.replicate, List.cons_append, List.nil_append, true_and, and_true, Bool.not_true, Bool.not_false, if_true, if_false, Bool.false_eq_true, D.int.injEq, D.isNon, D.isBl, Nat.reduceLeDiff, dropR_len, Nat.le_refl, ite_true, ite_false, reduceCtorEq]; exact congrArg D.bl hf.symm
        | true =>
          cases h2 : isW y with
          | false => simp only [PM_ret, PM_bind, PM_guard, PM_slot', PM_eC, PM_eOp, PM_eUn, PM_eT, PM_tV, PM_eAnd, PM_eOr, PM_tAnd, PM_tOr, PM_tNot, PM_eIf, PM_tIf, PM_tCmp, PM_tChn, PM_last, PM_more, PM_aNil, PM_aCons, PM_eTup, PM_eLst, PM_eCall, PM_eNew, PM_eDrop, PM_add, PM_sub, PM_mul, PM_fdiv, PM_mod, PM_pow, PM_neg, PM_lt, PM_le, PM_gt, PM_ge, PM_eqi, PM_nei, own_int, own_bl, own_tup, own_str, PM_isNon, PM_isBl, PM_isnot, PM_tbl, PM_tint, PM_tnon, PM_ttup, PM_lenT, PM_lenF, PM_int, PM_abs, PM_tupT, PM_lstF, PM_ixT, PM_eM, PM_iSeq, PM_seqT, PM_seqF, PM_rng1, PM_rng2, PM_enum, PZ_bind, PZ_nx, PZ_bk, PZ_ct, PZ_rt, SQ_nx, SQ_rt, SQ_ct, SQ_bk, TQ_nx, TQ_ct, TQ_bk, TQ_rt, PZ_seq, PZ_ret, PZ_drop, PZ_if, PZ_asg, PZ_one, PZ_par, PZ_allN, PZ_allC, PZ_tup, PZ_sub, PZ_fld, PZ_for, List.getElem?_cons_zero, List.getElem?_cons_succ, Option.some.injEq, exists_eq_left', exists_eq_left, List.set_cons_zero, List.set_cons_succ, setAll, List.length_cons, List.length_nil, List.map_cons, List.map_nil, Nat.reduceAdd, Nat.reduceSub, List.replicate, List.cons_append, List.nil_append, true_and, and_true, Bool.not_true, Bool.not_false, if_true, if_false, Bool.false_eq_true, D.int.injEq, D.isNon, D.isBl, Nat.reduceLeDiff, dropR_len, Nat.le_refl, ite_true, ite_false, reduceCtorEq, s13, PM_fldO fl3, PM_of hw2, h2]; exact congrArg D.bl hf.symm
          | true => exact absurd ⟨h1, h2⟩ hab
theorem g3_ch {dm : List (Int × Nat)} {v : D} (h : g3 dm.length v = false) : ch dm v = false := by
  unfold ch
  split
  · rename_i i j
    have h : (decide (0 ≤ i) && (decide (i < j) && decide (j < (dm.length : Int)))) = false := h
    show ((decide (0 ≤ i) && decide (i < (dm.length : Int))) && ((decide (0 ≤ j) && decide (j < (dm.length : Int))) && (decide (i < j) && clashAt dm i j))) = false
    by_cases q1 : 0 ≤ i <;> by_cases q2 : i < j <;> by_cases q3 : j < (dm.length : Int) <;> simp [q1, q2, q3] at h ⊢
  · rfl
theorem g3_true {dm : List (Int × Nat)} {v : D} (h : g3 dm.length v = true) : ∃ (i j : Int) (p q : Int × Nat), v = .obj 1 [.int i, .int j] ∧ atI (dm.map dD) i = some (dD p) ∧ atI (dm.map dD) j = some (dD q) ∧ p ∈ dm ∧ q ∈ dm ∧ ch dm v = clashB p q := by
  unfold g3 at h
  split at h
  · rename_i i j
    rw [Bool.and_eq_true, Bool.and_eq_true, decide_eq_true_eq, decide_eq_true_eq, decide_eq_true_eq] at h
    obtain ⟨h1, h2, h3⟩ := h
    have x1 : isIx (.int i) dm.length = true := by
      show (decide (0 ≤ i) && decide (i < (dm.length : Int))) = true
      rw [decide_eq_true h1, decide_eq_true (show i < (dm.length : Int) by omega)]; rfl
    have x2 : isIx (.int j) dm.length = true := by
      show (decide (0 ≤ j) && decide (j < (dm.length : Int))) = true
      rw [decide_eq_true (show 0 ≤ j by omega), decide_eq_true h3]; rfl
    obtain ⟨p, p1, p2⟩ := at_dm x1
    obtain ⟨q, q1, q2⟩ := at_dm x2
    refine ⟨i, j, p, q, rfl, p2, q2, mem_of_at p1, mem_of_at q1, ?_⟩
    show (isIx (.int i) dm.length && (isIx (.int j) dm.length && (decide (i < j) && clashAt dm i j))) = _
    rw [x1, x2, decide_eq_true h2]
    unfold clashAt
    rw [p1, q1]; rfl
  · cases h
end


section
variable {k : Nat} {S : Store} {ρ : En} {Q : D → Store → Prop} {B : Bool → Store → Prop}
theorem cEq_pair {a b c d : Int} : cEq (.tup [.int a, .int b]) (.tup [.int c, .int d]) S = some (.ok (PyData.eqv (.tuple [.int a, .int b]) (.tuple [.int c, .int d])) S) := by
  show (if min (PyData.tuple [.int a, .int b]).depth (PyData.tuple [.int c, .int d]).depth ≤ 200 then some (R.ok (PyData.eqv (.tuple [.int a, .int b]) (.tuple [.int c, .int d])) S) else none) = _
  rw [if_pos (Nat.le_trans (Nat.min_le_left _ _) (by show (PyData.tuple [.int a, .int b]).depth ≤ 200; simp [PyData.depth, PyData.depthAll]))]
theorem PM_ownO {C : Calls} {mt' : Str} {base : D → D → M Bool} {c i : Nat} {xs : List D} {y : D} {b : Bool} (hm : Γ.meth c mt' = some (i, 2)) (hy : okTy Γ S y = true) (h : C.fn i [.obj c xs, y] S = some (.ok (.bl b) S)) : PM (cOwn Γ C mt' base (.obj c xs) y) S B ↔ B b S := by
  refine PM_of ?_
  unfold cOwn clsD
  simp only [hm, hy, and_self, if_true]
  unfold M.bind
  rw [h]; rfl
theorem meq0 : Γ.meth 0 "__eq__" = some (1, 2) := rfl
theorem mne0 : Γ.meth 0 "__ne__" = some (2, 2) := rfl
theorem meq1 : Γ.meth 1 "__eq__" = some (4, 2) := rfl
theorem mne1 : Γ.meth 1 "__ne__" = some (5, 2) := rfl
theorem ok0 {xs : List D} : okTy Γ S (.obj 0 xs) = true := rfl
theorem ok1 {xs : List D} : okTy Γ S (.obj 1 xs) = true := rfl
theorem okt {xs : List D} : okTy Γ S (.tup xs) = true := rfl
theorem e00 : ((0 : Nat) == 0) = true := rfl
theorem e01 : ((0 : Nat) == 1) = false := rfl
theorem e10 : ((1 : Nat) == 0) = false := rfl
theorem e11 : ((1 : Nat) == 1) = true := rfl
theorem f_eq {a b c d : Int} : (CC (k + 1)).fn 1 [.obj 0 [.int a, .int b], .obj 0 [.int c, .int d]] S = some (.ok (.bl (PyData.eqv (.tuple [.int a, .int b]) (.tuple [.int c, .int d]))) S) := by
  refine fn_eq (PM_fn rfl rfl rfl ?_)
  unfold b_Found_eq
  simp only [PM_ret, PM_bind, PM_guard, PM_slot', PM_eC, PM_eOp, PM_eUn, PM_eT, PM_tV, PM_eAnd, PM_eOr, PM_tAnd, PM_tOr, PM_tNot, PM_eIf, PM_tIf, PM_tCmp, PM_tChn, PM_last, PM_more, PM_aNil, PM_aCons, PM_eTup, PM_eLst, PM_eCall, PM_eNew, PM_eDrop, PM_add, PM_sub, PM_mul, PM_fdiv, PM_mod, PM_pow, PM_neg, PM_lt, PM_le, PM_gt, PM_ge, PM_eqi, PM_nei, own_int, own_bl, own_tup, own_str, PM_isNon, PM_isBl, PM_isnot, PM_tbl, PM_tint, PM_tnon, PM_ttup, PM_lenT, PM_lenF, PM_int, PM_abs, PM_tupT, PM_lstF, PM_ixT, PM_eM, PM_iSeq, PM_seqT, PM_seqF, PM_rng1, PM_rng2, PM_enum, PZ_bind, PZ_nx, PZ_bk, PZ_ct, PZ_rt, SQ_nx, SQ_rt, SQ_ct, SQ_bk, TQ_nx, TQ_ct, TQ_bk, TQ_rt, PZ_seq, PZ_ret, PZ_drop, PZ_if, PZ_asg, PZ_one, PZ_par, PZ_allN, PZ_allC, PZ_tup, PZ_sub, PZ_fld, PZ_for, List.getElem?_cons_zero, List.getElem?_cons_succ, Option.some.injEq, exists_eq_left', exists_eq_left, List.set_cons_zero, List.set_cons_succ, setAll, List.length_cons, List.length_nil, List.map_cons, List.map_nil, Nat.reduceAdd, Nat.reduceSub, List.replicate, List.cons_append, List.nil_append, true_and, and_true, Bool.not_true, Bool.not_false, if_true, if_false, Bool.false_eq_true, D.int.injEq, D.isNon, D.isBl, Nat.reduceLeDiff, dropR_len, Nat.le_refl, ite_true, ite_false, reduceCtorEq, PM_isiO (Γ := Γ) (i := 0) (j := 0) c0 c0, e00, PM_fldO fl0, PM_fldO fl1, big2, PM_of cEq_pair]
theorem f_eqC {a b c d : Int} : (CC (k + 1)).fn 1 [.obj 0 [.int a, .int b], .obj 1 [.int c, .int d]] S = some (.ok (.bl false) S) := by
  refine fn_eq (PM_fn rfl rfl rfl ?_)
  unfold b_Found_eq
  simp only [PM_ret, PM_bind, PM_guard, PM_slot', PM_eC, PM_eOp, PM_eUn, PM_eT, PM_tV, PM_eAnd, PM_eOr, PM_tAnd, PM_tOr, PM_tNot, PM_eIf, PM_tIf, PM_tCmp, PM_tChn, PM_last, PM_more, PM_aNil, PM_aCons, PM_eTup, PM_eLst, PM_eCall, PM_eNew, PM_eDrop, PM_add, PM_sub, PM_mul, PM_fdiv, PM_mod, PM_pow, PM_neg, PM_lt, PM_le, PM_gt, PM_ge, PM_eqi, PM_nei, own_int, own_bl, own_tup, own_str, PM_isNon, PM_isBl, PM_isnot, PM_tbl, PM_tint, PM_tnon, PM_ttup, PM_lenT, PM_lenF, PM_int, PM_abs, PM_tupT, PM_lstF, PM_ixT, PM_eM, PM_iSeq, PM_seqT, PM_seqF, PM_rng1, PM_rng2, PM_enum, PZ_bind, PZ_nx, PZ_bk, PZ_ct, PZ_rt, SQ_nx, SQ_rt, SQ_ct, SQ_bk, TQ_nx, TQ_ct, TQ_bk, TQ_rt, PZ_seq, PZ_ret, PZ_drop, PZ_if, PZ_asg, PZ_one, PZ_par, PZ_allN, PZ_allC, PZ_tup, PZ_sub, PZ_fld, PZ_for, List.getElem?_cons_zero, List.getElem?_cons_succ, Option.some.injEq, exists_eq_left', exists_eq_left, List.set_cons_zero, List.set_cons_succ, setAll, List.length_cons, List.length_nil, List.map_cons, List.map_nil, Nat.reduceAdd, Nat.reduceSub, List.replicate, List.cons_append, List.nil_append, true_and, and_true, Bool.not_true, Bool.not_false, if_true, if_false, Bool.false_eq_true, D.int.injEq, D.isNon, D.isBl, Nat.reduceLeDiff, dropR_len, Nat.le_refl, ite_true, ite_false, reduceCtorEq, PM_isiO (Γ := Γ) (i := 1) (j := 0) c1 c0, e10]
theorem c_eq {a b c d : Int} : (CC (k + 1)).fn 4 [.obj 1 [.int a, .int b], .obj 1 [.int c, .int d]] S = some (.ok (.bl (PyData.eqv (.tuple [.int a, .int b]) (.tuple [.int c, .int d]))) S) := by
  refine fn_eq (PM_fn rfl rfl rfl ?_)
  unfold b_Clash_eq
  simp only [PM_ret, PM_bind, PM_guard, PM_slot', PM_eC, PM_eOp, PM_eUn, PM_eT, PM_tV, PM_eAnd, PM_eOr, PM_tAnd, PM_tOr, PM_tNot, PM_eIf, PM_tIf, PM_tCmp, PM_tChn, PM_last, PM_more, PM_aNil, PM_aCons, PM_eTup, PM_eLst, PM_eCall, PM_eNew, PM_eDrop, PM_add, PM_sub, PM_mul, PM_fdiv, PM_mod, PM_pow, PM_neg, PM_lt, PM_le, PM_gt, PM_ge, PM_eqi, PM_nei, own_int, own_bl, own_tup, own_str, PM_isNon, PM_isBl, PM_isnot, PM_tbl, PM_tint, PM_tnon, PM_ttup, PM_lenT, PM_lenF, PM_int, PM_abs, PM_tupT, PM_lstF, PM_ixT, PM_eM, PM_iSeq, PM_seqT, PM_seqF, PM_rng1, PM_rng2, PM_enum, PZ_bind, PZ_nx, PZ_bk, PZ_ct, PZ_rt, SQ_nx, SQ_rt, SQ_ct, SQ_bk, TQ_nx, TQ_ct, TQ_bk, TQ_rt, PZ_seq, PZ_ret, PZ_drop, PZ_if, PZ_asg, PZ_one, PZ_par, PZ_allN, PZ_allC, PZ_tup, PZ_sub, PZ_fld, PZ_for, List.getElem?_cons_zero, List.getElem?_cons_succ, Option.some.injEq, exists_eq_left', exists_eq_left, List.set_cons_zero, List.set_cons_succ, setAll, List.length_cons, List.length_nil, List.map_cons, List.map_nil, Nat.reduceAdd, Nat.reduceSub, List.replicate, List.cons_append, List.nil_append, true_and, and_true, Bool.not_true, Bool.not_false, if_true, if_false, Bool.false_eq_true, D.int.injEq, D.isNon, D.isBl, Nat.reduceLeDiff, dropR_len, Nat.le_refl, ite_true, ite_false, reduceCtorEq, PM_isiO (Γ := Γ) (i := 1) (j := 1) c1 c1, e11, PM_fldO fl2, PM_fldO fl3, big2, PM_of cEq_pair]
theorem c_eqT {a b c d : Int} : (CC (k + 1)).fn 4 [.obj 1 [.int a, .int b], .tup [.int c, .int d]] S = some (.ok (.bl false) S) := by
  refine fn_eq (PM_fn rfl rfl rfl ?_)
  unfold b_Clash_eq
  simp only [PM_ret, PM_bind, PM_guard, PM_slot', PM_eC, PM_eOp, PM_eUn, PM_eT, PM_tV, PM_eAnd, PM_eOr, PM_tAnd, PM_tOr, PM_tNot, PM_eIf, PM_tIf, PM_tCmp, PM_tChn, PM_last, PM_more, PM_aNil, PM_aCons, PM_eTup, PM_eLst, PM_eCall, PM_eNew, PM_eDrop, PM_add, PM_sub, PM_mul, PM_fdiv, PM_mod, PM_pow, PM_neg, PM_lt, PM_le, PM_gt, PM_ge, PM_eqi, PM_nei, own_int, own_bl, own_tup, own_str, PM_isNon, PM_isBl, PM_isnot, PM_tbl, PM_tint, PM_tnon, PM_ttup, PM_lenT, PM_lenF, PM_int, PM_abs, PM_tupT, PM_lstF, PM_ixT, PM_eM, PM_iSeq, PM_seqT, PM_seqF, PM_rng1, PM_rng2, PM_enum, PZ_bind, PZ_nx, PZ_bk, PZ_ct, PZ_rt, SQ_nx, SQ_rt, SQ_ct, SQ_bk, TQ_nx, TQ_ct, TQ_bk, TQ_rt, PZ_seq, PZ_ret, PZ_drop, PZ_if, PZ_asg, PZ_one, PZ_par, PZ_allN, PZ_allC, PZ_tup, PZ_sub, PZ_fld, PZ_for, List.getElem?_cons_zero, List.getElem?_cons_succ, Option.some.injEq, exists_eq_left', exists_eq_left, List.set_cons_zero, List.set_cons_succ, setAll, List.length_cons, List.length_nil, List.map_cons, List.map_nil, Nat.reduceAdd, Nat.reduceSub, List.replicate, List.cons_append, List.nil_append, true_and, and_true, Bool.not_true, Bool.not_false, if_true, if_false, Bool.false_eq_true, D.int.injEq, D.isNon, D.isBl, Nat.reduceLeDiff, dropR_len, Nat.le_refl, ite_true, ite_false, reduceCtorEq, PM_isiC (Γ := Γ) (S := S) (x := .tup [.int c, .int d]) (T := "tuple") (i := 1) rfl (by decide) c1]
theorem f_ne {a b c d : Int} : (CC (k + 2)).fn 2 [.obj 0 [.int a, .int b], .obj 0 [.int c, .int d]] S = some (.ok (.bl (!PyData.eqv (.tuple [.int a, .int b]) (.tuple [.int c, .int d]))) S) := by
  refine fn_eq (PM_fn rfl rfl rfl ?_)
  unfold b_Found_ne
  simp only [PM_ret, PM_bind, PM_guard, PM_slot', PM_eC, PM_eOp, PM_eUn, PM_eT, PM_tV, PM_eAnd, PM_eOr, PM_tAnd, PM_tOr, PM_tNot, PM_eIf, PM_tIf, PM_tCmp, PM_tChn, PM_last, PM_more, PM_aNil, PM_aCons, PM_eTup, PM_eLst, PM_eCall, PM_eNew, PM_eDrop, PM_add, PM_sub, PM_mul, PM_fdiv, PM_mod, PM_pow, PM_neg, PM_lt, PM_le, PM_gt, PM_ge, PM_eqi, PM_nei, own_int, own_bl, own_tup, own_str, PM_isNon, PM_isBl, PM_isnot, PM_tbl, PM_tint, PM_tnon, PM_ttup, PM_lenT, PM_lenF, PM_int, PM_abs, PM_tupT, PM_lstF, PM_ixT, PM_eM, PM_iSeq, PM_seqT, PM_seqF, PM_rng1, PM_rng2, PM_enum, PZ_bind, PZ_nx, PZ_bk, PZ_ct, PZ_rt, SQ_nx, SQ_rt, SQ_ct, SQ_bk, TQ_nx, TQ_ct, TQ_bk, TQ_rt, PZ_seq, PZ_ret, PZ_drop, PZ_if, PZ_asg, PZ_one, PZ_par, PZ_allN, PZ_allC, PZ_tup, PZ_sub, PZ_fld, PZ_for, List.getElem?_cons_zero, List.getElem?_cons_succ, Option.some.injEq, exists_eq_left', exists_eq_left, List.set_cons_zero, List.set_cons_succ, setAll, List.length_cons, List.length_nil, List.map_cons, List.map_nil, Nat.reduceAdd, Nat.reduceSub, List.replicate, List.cons_append, List.nil_append, true_and, and_true, Bool.not_true, Bool.not_false, if_true, if_false, Bool.false_eq_true, D.int.injEq, D.isNon, D.isBl, Nat.reduceLeDiff, dropR_len, Nat.le_refl, ite_true, ite_false, reduceCtorEq, PM_ownO meq0 ok0 (f_eq (k := k) (S := S))]
theorem c_ne {a b c d : Int} : (CC (k + 2)).fn 5 [.obj 1 [.int a, .int b], .obj 1 [.int c, .int d]] S = some (.ok (.bl (!PyData.eqv (.tuple [.int a, .int b]) (.tuple [.int c, .int d]))) S) := by
  refine fn_eq (PM_fn rfl rfl rfl ?_)
  unfold b_Clash_ne
  simp only [PM_ret, PM_bind, PM_guard, PM_slot', PM_eC, PM_eOp, PM_eUn, PM_eT, PM_tV, PM_eAnd, PM_eOr, PM_tAnd, PM_tOr, PM_tNot, PM_eIf, PM_tIf, PM_tCmp, PM_tChn, PM_last, PM_more, PM_aNil, PM_aCons, PM_eTup, PM_eLst, PM_eCall, PM_eNew, PM_eDrop, PM_add, PM_sub, PM_mul, PM_fdiv, PM_mod, PM_pow, PM_neg, PM_lt, PM_le, PM_gt, PM_ge, PM_eqi, PM_nei, own_int, own_bl, own_tup, own_str, PM_isNon, PM_isBl, PM_isnot, PM_tbl, PM_tint, PM_tnon, PM_ttup, PM_lenT, PM_lenF, PM_int, PM_abs, PM_tupT, PM_lstF, PM_ixT, PM_eM, PM_iSeq, PM_seqT, PM_seqF, PM_rng1, PM_rng2, PM_enum, PZ_bind, PZ_nx, PZ_bk, PZ_ct, PZ_rt, SQ_nx, SQ_rt, SQ_ct, SQ_bk, TQ_nx, TQ_ct, TQ_bk, TQ_rt, PZ_seq, PZ_ret, PZ_drop, PZ_if, PZ_asg, PZ_one, PZ_par, PZ_allN, PZ_allC, PZ_tup, PZ_sub, PZ_fld, PZ_for, List.getElem?_cons_zero, List.getElem?_cons_succ, Option.some.injEq, exists_eq_left', exists_eq_left, List.set_cons_zero, List.set_cons_succ, setAll, List.length_cons, List.length_nil, List.map_cons, List.map_nil, Nat.reduceAdd, Nat.reduceSub, List.replicate, List.cons_append, List.nil_append, true_and, and_true, Bool.not_true, Bool.not_false, if_true, if_false, Bool.false_eq_true, D.int.injEq, D.isNon, D.isBl, Nat.reduceLeDiff, dropR_len, Nat.le_refl, ite_true, ite_false, reduceCtorEq, PM_ownO meq1 ok1 (c_eq (k := k) (S := S))]
/-- the last three statements -/
theorem z_last {a0 a1 a2 a3 a4 a5 a6 a7 a8 a9 a10 a11 a12 a13 a14 a15 a16 a17 a18 : Option D} {U : RS → Prop} (h : U (.rt (.bl true) S)) :
    PZ (sSeq (sPar [11, 12] (aCons (eNew (CC (k + 3)) 0 2 (aCons (eC (.int 1)) (aCons (eC (.int 2)) aNil))) (aCons (eNew (CC (k + 3)) 1 2 (aCons (eC (.int 1)) (aCons (eC (.int 2)) aNil))) aNil)))
    (sSeq (sIf (tOr (tCmp cIsNot (eT (tCmp (cOwn Γ (CC (k + 3)) "__eq__" cEq) (eSlot 11) (eNew (CC (k + 3)) 0 2 (aCons (eC (.int 1)) (aCons (eC (.int 2)) aNil))))) (eC (.bl true))) (tOr (tCmp cIsNot (eT (tCmp (cOwn Γ (CC (k + 3)) "__ne__" cNe) (eSlot 11) (eNew (CC (k + 3)) 0 2 (aCons (eC (.int 0)) (aCons (eC (.int 2)) aNil))))) (eC (.bl true))) (tOr (tCmp cIsNot (eT (tCmp (cOwn Γ (CC (k + 3)) "__eq__" cEq) (eSlot 11) (eNew (CC (k + 3)) 0 2 (aCons (eC (.int 1)) (aCons (eC (.int 3)) aNil))))) (eC (.bl false))) (tCmp cIsNot (eT (tCmp (cOwn Γ (CC (k + 3)) "__eq__" cEq) (eSlot 11) (eSlot 12))) (eC (.bl false)))))) (sRet (eC (.bl false))) sNx)
    (sRet (eAnd (eT (tCmp cIs (eT (tCmp (cOwn Γ (CC (k + 3)) "__eq__" cEq) (eSlot 12) (eNew (CC (k + 3)) 1 2 (aCons (eC (.int 1)) (aCons (eC (.int 2)) aNil))))) (eC (.bl true)))) (eAnd (eT (tCmp cIs (eT (tCmp (cOwn Γ (CC (k + 3)) "__ne__" cNe) (eSlot 12) (eNew (CC (k + 3)) 1 2 (aCons (eC (.int 0)) (aCons (eC (.int 2)) aNil))))) (eC (.bl true)))) (eAnd (eT (tCmp cIs (eT (tCmp (cOwn Γ (CC (k + 3)) "__eq__" cEq) (eSlot 12) (eNew (CC (k + 3)) 1 2 (aCons (eC (.int 1)) (aCons (eC (.int 3)) aNil))))) (eC (.bl false)))) (eT (tCmp cIs (eT (tCmp (cOwn Γ (CC (k + 3)) "__eq__" cEq) (eSlot 12) (eTup (aCons (eC (.int 1)) (aCons (eC (.int 2)) aNil))))) (eC (.bl false)))))))))) [a0, a1, a2, a3, a4, a5, a6, a7, a8, a9, a10, a11, a12, a13, a14, a15, a16, a17, a18] S U := by
  have nf : ∀ a b : Int, (CC (k + 3)).new 0 [.int a, .int b] S = some (.ok (.obj 0 [.int a, .int b]) S) := fun a b => e_found (k := k) trivial trivial
  have nc : ∀ a b : Int, (CC (k + 3)).new 1 [.int a, .int b] S = some (.ok (.obj 1 [.int a, .int b]) S) := fun a b => e_clash (k := k) trivial trivial
  have t1 : PyData.eqv (.tuple [.int 1, .int 2]) (.tuple [.int 1, .int 2]) = true := by decide
  have t2 : PyData.eqv (.tuple [.int 1, .int 2]) (.tuple [.int 0, .int 2]) = false := by decide
  have t3 : PyData.eqv (.tuple [.int 1, .int 2]) (.tuple [.int 1, .int 3]) = false := by decide
  have i1 : (D.bl true).isBl true = true := rfl
  have i2 : (D.bl false).isBl false = true := rfl
  simp only [PM_ret, PM_bind, PM_guard, PM_slot', PM_eC, PM_eOp, PM_eUn, PM_eT, PM_tV, PM_eAnd, PM_eOr, PM_tAnd, PM_tOr, PM_tNot, PM_eIf, PM_tIf, PM_tCmp, PM_tChn, PM_last, PM_more, PM_aNil, PM_aCons, PM_eTup, PM_eLst, PM_eCall, PM_eNew, PM_eDrop, PM_add, PM_sub, PM_mul, PM_fdiv, PM_mod, PM_pow, PM_neg, PM_lt, PM_le, PM_gt, PM_ge, PM_eqi, PM_nei, own_int, own_bl, own_tup, own_str, PM_isNon, PM_isBl, PM_isnot, PM_tbl, PM_tint, PM_tnon, PM_ttup, PM_lenT, PM_lenF, PM_int, PM_abs, PM_tupT, PM_lstF, PM_ixT, PM_eM, PM_iSeq, PM_seqT, PM_seqF, PM_rng1, PM_rng2, PM_enum, PZ_bind, PZ_nx, PZ_bk, PZ_ct, PZ_rt, SQ_nx, SQ_rt, SQ_ct, SQ_bk, TQ_nx, TQ_ct, TQ_bk, TQ_rt, PZ_seq, PZ_ret, PZ_drop, PZ_if, PZ_asg, PZ_one, PZ_par, PZ_allN, PZ_allC, PZ_tup, PZ_sub, PZ_fld, PZ_for, List.getElem?_cons_zero, List.getElem?_cons_succ, Option.some.injEq, exists_eq_left', exists_eq_left, List.set_cons_zero, List.set_cons_succ, setAll, List.length_cons, List.length_nil, List.map_cons, List.map_nil, Nat.reduceAdd, Nat.reduceSub, List.replicate, List.cons_append, List.nil_append, true_and, and_true, Bool.not_true, Bool.not_false, if_true, if_false, Bool.false_eq_true, D.int.injEq, D.isNon, D.isBl, Nat.reduceLeDiff, dropR_len, Nat.le_refl, ite_true, ite_false, reduceCtorEq, PM_of (nf _ _), PM_of (nc _ _), PM_ownO meq0 ok0 (f_eq (k := k + 2) (S := S)), PM_ownO mne0 ok0 (f_ne (k := k + 1) (S := S)), PM_ownO meq0 ok1 (f_eqC (k := k + 2) (S := S)), PM_ownO meq1 ok1 (c_eq (k := k + 2) (S := S)), PM_ownO mne1 ok1 (c_ne (k := k + 1) (S := S)), PM_ownO meq1 okt (c_eqT (k := k + 2) (S := S)), t1, t2, t3, i1, i2, big2]
  exact h
end


section
variable {k : Nat} {S : Store} {ρ : En} {Q : D → Store → Prop} {B : Bool → Store → Prop}
theorem e_law {ns : List Int} : PM ((CC (k + 6)).fn 29 [.flst (ns.map .int)]) [] fun d _ => d = .bl true := by
  refine PM_fn rfl rfl rfl ?_
  unfold b_law
  rw [PZ_seq]
  generalize hK : SQ _ _ = K
  simp only [PM_ret, PM_bind, PM_guard, PM_slot', PM_eC, PM_eOp, PM_eUn, PM_eT, PM_tV, PM_eAnd, PM_eOr, PM_tAnd, PM_tOr, PM_tNot, PM_eIf, PM_tIf, PM_tCmp, PM_tChn, PM_last, PM_more, PM_aNil, PM_aCons, PM_eTup, PM_eLst, PM_eCall, PM_eNew, PM_eDrop, PM_add, PM_sub, PM_mul, PM_fdiv, PM_mod, PM_pow, PM_neg, PM_lt, PM_le, PM_gt, PM_ge, PM_eqi, PM_nei, own_int, own_bl, own_tup, own_str, PM_isNon, PM_isBl, PM_isnot, PM_tbl, PM_tint, PM_tnon, PM_ttup, PM_lenT, PM_lenF, PM_int, PM_abs, PM_tupT, PM_lstF, PM_ixT, PM_eM, PM_iSeq, PM_seqT, PM_seqF, PM_rng1, PM_rng2, PM_enum, PZ_bind, PZ_nx, PZ_bk, PZ_ct, PZ_rt, SQ_nx, SQ_rt, SQ_ct, SQ_bk, TQ_nx, TQ_ct, TQ_bk, TQ_rt, PZ_seq, PZ_ret, PZ_drop, PZ_if, PZ_asg, PZ_one, PZ_par, PZ_allN, PZ_allC, PZ_tup, PZ_sub, PZ_fld, PZ_for, List.getElem?_cons_zero, List.getElem?_cons_succ, Option.some.injEq, exists_eq_left', exists_eq_left, List.set_cons_zero, List.set_cons_succ, setAll, List.length_cons, List.length_nil, List.map_cons, List.map_nil, Nat.reduceAdd, Nat.reduceSub, List.replicate, List.cons_append, List.nil_append, true_and, and_true, Bool.not_true, Bool.not_false, if_true, if_false, Bool.false_eq_true, D.int.injEq, D.isNon, D.isBl, Nat.reduceLeDiff, dropR_len, Nat.le_refl, ite_true, ite_false, reduceCtorEq]
  refine (e_pen (k := k + 4) (ns := ns)).imp ?_
  rintro d S1 ⟨rfl, hp⟩
  subst hK
  rw [SQ_nx, PZ_seq]
  generalize hK : SQ _ _ = K
  rw [PZ_for]
  simp only [PM_rng1, PM_eC]
  refine ⟨4, rfl, by decide, ?_⟩
  refine PZ_go (fun _ ρ S' => PenAt 0 1 S' ∧ ∃ (a2 a3 a4 a5 a6 a7 a8 a9 a10 a11 a12 a13 a14 a15 a16 a17 a18 : Option D), ρ = [some (.flst (ns.map .int)), some (.ref 0), a2, a3, a4, a5, a6, a7, a8, a9, a10, a11, a12, a13, a14, a15, a16, a17, a18]) ⟨hp, _, _, _, _, _, _, _, _, _, _, _, _, _, _, _, _, _, rfl⟩ ?_ ?_
  · rintro j d ρ S2 hj ⟨hp, a2, a3, a4, a5, a6, a7, a8, a9, a10, a11, a12, a13, a14, a15, a16, a17, a18, rfl⟩
    refine ⟨trivial, _, rfl, ?_⟩
    -- demands
    rw [PZ_seq]
    generalize hK2 : SQ _ _ = K2
    simp only [PM_ret, PM_bind, PM_guard, PM_slot', PM_eC, PM_eOp, PM_eUn, PM_eT, PM_tV, PM_eAnd, PM_eOr, PM_tAnd, PM_tOr, PM_tNot, PM_eIf, PM_tIf, PM_tCmp, PM_tChn, PM_last, PM_more, PM_aNil, PM_aCons, PM_eTup, PM_eLst, PM_eCall, PM_eNew, PM_eDrop, PM_add, PM_sub, PM_mul, PM_fdiv, PM_mod, PM_pow, PM_neg, PM_lt, PM_le, PM_gt, PM_ge, PM_eqi, PM_nei, own_int, own_bl, own_tup, own_str, PM_isNon, PM_isBl, PM_isnot, PM_tbl, PM_tint, PM_tnon, PM_ttup, PM_lenT, PM_lenF, PM_int, PM_abs, PM_tupT, PM_lstF, PM_ixT, PM_eM, PM_iSeq, PM_seqT, PM_seqF, PM_rng1, PM_rng2, PM_enum, PZ_bind, PZ_nx, PZ_bk, PZ_ct, PZ_rt, SQ_nx, SQ_rt, SQ_ct, SQ_bk, TQ_nx, TQ_ct, TQ_bk, TQ_rt, PZ_seq, PZ_ret, PZ_drop, PZ_if, PZ_asg, PZ_one, PZ_par, PZ_allN, PZ_allC, PZ_tup, PZ_sub, PZ_fld, PZ_for, List.getElem?_cons_zero, List.getElem?_cons_succ, Option.some.injEq, exists_eq_left', exists_eq_left, List.set_cons_zero, List.set_cons_succ, setAll, List.length_cons, List.length_nil, List.map_cons, List.map_nil, Nat.reduceAdd, Nat.reduceSub, List.replicate, List.cons_append, List.nil_append, true_and, and_true, Bool.not_true, Bool.not_false, if_true, if_false, Bool.false_eq_true, D.int.injEq, D.isNon, D.isBl, Nat.reduceLeDiff, dropR_len, Nat.le_refl, ite_true, ite_false, reduceCtorEq]
    refine (e_demands (k := k + 3) hp).imp ?_
    rintro d S3 ⟨⟨dm, rfl, hok, hdl⟩, hp3⟩
    subst hK2
    rw [SQ_nx, PZ_seq]
    generalize hK2 : SQ _ _ = K2
    simp only [PM_ret, PM_bind, PM_guard, PM_slot', PM_eC, PM_eOp, PM_eUn, PM_eT, PM_tV, PM_eAnd, PM_eOr, PM_tAnd, PM_tOr, PM_tNot, PM_eIf, PM_tIf, PM_tCmp, PM_tChn, PM_last, PM_more, PM_aNil, PM_aCons, PM_eTup, PM_eLst, PM_eCall, PM_eNew, PM_eDrop, PM_add, PM_sub, PM_mul, PM_fdiv, PM_mod, PM_pow, PM_neg, PM_lt, PM_le, PM_gt, PM_ge, PM_eqi, PM_nei, own_int, own_bl, own_tup, own_str, PM_isNon, PM_isBl, PM_isnot, PM_tbl, PM_tint, PM_tnon, PM_ttup, PM_lenT, PM_lenF, PM_int, PM_abs, PM_tupT, PM_lstF, PM_ixT, PM_eM, PM_iSeq, PM_seqT, PM_seqF, PM_rng1, PM_rng2, PM_enum, PZ_bind, PZ_nx, PZ_bk, PZ_ct, PZ_rt, SQ_nx, SQ_rt, SQ_ct, SQ_bk, TQ_nx, TQ_ct, TQ_bk, TQ_rt, PZ_seq, PZ_ret, PZ_drop, PZ_if, PZ_asg, PZ_one, PZ_par, PZ_allN, PZ_allC, PZ_tup, PZ_sub, PZ_fld, PZ_for, List.getElem?_cons_zero, List.getElem?_cons_succ, Option.some.injEq, exists_eq_left', exists_eq_left, List.set_cons_zero, List.set_cons_succ, setAll, List.length_cons, List.length_nil, List.map_cons, List.map_nil, Nat.reduceAdd, Nat.reduceSub, List.replicate, List.cons_append, List.nil_append, true_and, and_true, Bool.not_true, Bool.not_false, if_true, if_false, Bool.false_eq_true, D.int.injEq, D.isNon, D.isBl, Nat.reduceLeDiff, dropR_len, Nat.le_refl, ite_true, ite_false, reduceCtorEq]
    refine (e_foc (k := k) (S := S3) hok hdl).imp ?_
    rintro t S4 ⟨rfl, ht⟩
    subst hK2
    rw [SQ_nx, PZ_seq]
    generalize hK2 : SQ _ _ = K2
    rw [PZ_for]
    simp only [PM_iSeq, PM_slot', List.getElem?_cons_zero, List.getElem?_cons_succ, Option.some.injEq, exists_eq_left', PM_seqT]
    obtain ⟨lc1, lc2⟩ := lc_lt hok hdl
    refine PZ_go (fun j ρ S' => S' = S4 ∧ j ≤ dm.length ∧ ∃ (b6 b7 : Option D), ρ = [some (.flst (ns.map .int)), some (.ref 0), some d, some (.tup (dm.map dD)), some t, some (.int (lc (dm.take j))), b6, b7, a8, a9, a10, a11, a12, a13, a14, a15, a16, a17, a18]) ⟨rfl, by omega, _, _, rfl⟩ ?_ ?_
    · rintro j d ρ S5 hj ⟨rfl, hj5, b6, b7, rfl⟩
      obtain ⟨p, hp1, rfl⟩ := map_at hj
      have hlt := (List.getElem?_eq_some_iff.mp hp1).1
      obtain ⟨_, _, q3, q4⟩ := hok _ (mem_of_at hp1)
      obtain ⟨g1, g2⟩ := lc_bd hok hdl j (by omega)
      refine ⟨trivial, _, rfl, ?_⟩
      refine lc_turn (fun m n => e_lgcd (k := k + 4) (S := S5) m n) rfl rfl g1 (Nat.lt_of_le_of_lt g2 (p24 (by omega))) q3 q4 ?_
      refine ⟨rfl, by omega, some (.int p.1), some (.int p.2), ?_⟩
      rw [take_lc hp1]
      rfl
    · rintro ρ S5 ⟨rfl, _, b6, b7, rfl⟩
      refine ⟨trivial, ?_⟩
      rw [List.length_map, List.take_length]
      subst hK2
      rw [SQ_nx, PZ_for]
      simp only [PM_rng1, PM_eC]
      refine ⟨5, rfl, by decide, ?_⟩
      refine PZ_go (fun _ ρ S' => PenAt 0 1 S' ∧ ∃ (a2 a6 a7 a8 a9 a10 a11 a12 a13 a14 a15 a16 a17 a18 : Option D), ρ = [some (.flst (ns.map .int)), some (.ref 0), a2, some (.tup (dm.map dD)), some t, some (.int (lc dm)), a6, a7, a8, a9, a10, a11, a12, a13, a14, a15, a16, a17, a18]) ⟨hp3, _, _, _, _, _, _, _, _, _, _, _, _, _, _, rfl⟩ ?_ ?_
      · clear hj a2 a3 a4 a5 a6 a7 a8 a9 a10 a11 a12 a13 a14 a15 a16 a17 a18
        rintro j d8 ρ S6 hj ⟨hp6, a2, a6, a7, a8, a9, a10, a11, a12, a13, a14, a15, a16, a17, a18, rfl⟩
        refine ⟨trivial, _, rfl, ?_⟩
        -- number
        rw [PZ_seq]
        generalize hK3 : SQ _ _ = K3
        rw [PZ_asg]
        refine (x_number (k := k + 4) ht lc1 lc2 hp6 rfl rfl rfl).imp ?_
        rintro d T1 ⟨z, rfl, z1, z2, hp7⟩
        simp only [PZ_one]
        subst hK3
        rw [SQ_nx, PZ_seq]
        generalize hK3 : SQ _ _ = K3
        rw [PZ_asg]
        refine (x_six (z := z) (b := lc dm) ⟨z1, z2⟩ ⟨lc1, lc2⟩ hp7 rfl rfl).imp ?_
        rintro d10 T2 ⟨hl10, hp8⟩
        simp only [PZ_one]
        subst hK3
        rw [SQ_nx, PZ_seq]
        generalize hK3 : SQ _ _ = K3
        rw [PZ_asg]
        refine (x_twelve (k := k + 4) (z := z) (b := lc dm) ⟨z1, z2⟩ ⟨lc1, lc2⟩ hp8 hl10 rfl rfl rfl rfl).imp ?_
        rintro d10 T3 ⟨hl10, hp9⟩
        simp only [PZ_one]
        subst hK3
        rw [SQ_nx, PZ_seq]
        generalize hK3 : SQ _ _ = K3
        rw [PZ_asg]
        refine (x_two (k := k + 3) hp9 hl10 rfl rfl).imp ?_
        rintro d T4 ⟨⟨one, two, rfl, s1, s2⟩, hp10⟩
        rw [PZ_tup rfl]
        simp only [PM_ret, PM_bind, PM_guard, PM_slot', PM_eC, PM_eOp, PM_eUn, PM_eT, PM_tV, PM_eAnd, PM_eOr, PM_tAnd, PM_tOr, PM_tNot, PM_eIf, PM_tIf, PM_tCmp, PM_tChn, PM_last, PM_more, PM_aNil, PM_aCons, PM_eTup, PM_eLst, PM_eCall, PM_eNew, PM_eDrop, PM_add, PM_sub, PM_mul, PM_fdiv, PM_mod, PM_pow, PM_neg, PM_lt, PM_le, PM_gt, PM_ge, PM_eqi, PM_nei, own_int, own_bl, own_tup, own_str, PM_isNon, PM_isBl, PM_isnot, PM_tbl, PM_tint, PM_tnon, PM_ttup, PM_lenT, PM_lenF, PM_int, PM_abs, PM_tupT, PM_lstF, PM_ixT, PM_eM, PM_iSeq, PM_seqT, PM_seqF, PM_rng1, PM_rng2, PM_enum, PZ_bind, PZ_nx, PZ_bk, PZ_ct, PZ_rt, SQ_nx, SQ_rt, SQ_ct, SQ_bk, TQ_nx, TQ_ct, TQ_bk, TQ_rt, PZ_seq, PZ_ret, PZ_drop, PZ_if, PZ_asg, PZ_one, PZ_par, PZ_allN, PZ_allC, PZ_tup, PZ_sub, PZ_fld, PZ_for, List.getElem?_cons_zero, List.getElem?_cons_succ, Option.some.injEq, exists_eq_left', exists_eq_left, List.set_cons_zero, List.set_cons_succ, setAll, List.length_cons, List.length_nil, List.map_cons, List.map_nil, Nat.reduceAdd, Nat.reduceSub, List.replicate, List.cons_append, List.nil_append, true_and, and_true, Bool.not_true, Bool.not_false, if_true, if_false, Bool.false_eq_true, D.int.injEq, D.isNon, D.isBl, Nat.reduceLeDiff, dropR_len, Nat.le_refl, ite_true, ite_false, reduceCtorEq]
        subst hK3
        rw [SQ_nx, PZ_seq]
        generalize hK3 : SQ _ _ = K3
        rw [PZ_asg]
        refine (x_value (k := k + 2) (j := 0) (t := t) (z := .int z) (by decide) (fun S => e_found (k := k + 2) s1 s2) (fun S Q => PM_slot rfl) (fun S Q => PM_slot rfl) s1 s2 ht ⟨z, rfl⟩ hp10 rfl rfl rfl).imp ?_
        rintro v T5 ⟨hv, hp11⟩
        simp only [PZ_one]
        subst hK3
        rw [SQ_nx, PZ_seq]
        generalize hK3 : SQ _ _ = K3
        rw [PZ_asg]
        refine (x_good1 (k := k + 4) (b := lc dm) hv rfl rfl).imp ?_
        rintro d T6 ⟨rfl, rfl⟩
        simp only [PZ_one]
        subst hK3
        rw [SQ_nx, PZ_seq]
        generalize hK3 : SQ _ _ = K3
        rw [PZ_asg]
        refine (x_good2 hok hdl hp11 rfl rfl rfl rfl).imp ?_
        rintro d T7 ⟨rfl, hp12⟩
        simp only [PZ_one]
        subst hK3
        rw [SQ_nx, PZ_seq]
        generalize hK3 : SQ _ _ = K3
        have bb : ∀ b : Bool, (b == b) = true := fun b => by cases b <;> rfl
        simp only [PM_ret, PM_bind, PM_guard, PM_slot', PM_eC, PM_eOp, PM_eUn, PM_eT, PM_tV, PM_eAnd, PM_eOr, PM_tAnd, PM_tOr, PM_tNot, PM_eIf, PM_tIf, PM_tCmp, PM_tChn, PM_last, PM_more, PM_aNil, PM_aCons, PM_eTup, PM_eLst, PM_eCall, PM_eNew, PM_eDrop, PM_add, PM_sub, PM_mul, PM_fdiv, PM_mod, PM_pow, PM_neg, PM_lt, PM_le, PM_gt, PM_ge, PM_eqi, PM_nei, own_int, own_bl, own_tup, own_str, PM_isNon, PM_isBl, PM_isnot, PM_tbl, PM_tint, PM_tnon, PM_ttup, PM_lenT, PM_lenF, PM_int, PM_abs, PM_tupT, PM_lstF, PM_ixT, PM_eM, PM_iSeq, PM_seqT, PM_seqF, PM_rng1, PM_rng2, PM_enum, PZ_bind, PZ_nx, PZ_bk, PZ_ct, PZ_rt, SQ_nx, SQ_rt, SQ_ct, SQ_bk, TQ_nx, TQ_ct, TQ_bk, TQ_rt, PZ_seq, PZ_ret, PZ_drop, PZ_if, PZ_asg, PZ_one, PZ_par, PZ_allN, PZ_allC, PZ_tup, PZ_sub, PZ_fld, PZ_for, List.getElem?_cons_zero, List.getElem?_cons_succ, Option.some.injEq, exists_eq_left', exists_eq_left, List.set_cons_zero, List.set_cons_succ, setAll, List.length_cons, List.length_nil, List.map_cons, List.map_nil, Nat.reduceAdd, Nat.reduceSub, List.replicate, List.cons_append, List.nil_append, true_and, and_true, Bool.not_true, Bool.not_false, if_true, if_false, Bool.false_eq_true, D.int.injEq, D.isNon, D.isBl, Nat.reduceLeDiff, dropR_len, Nat.le_refl, ite_true, ite_false, reduceCtorEq, PM_of (e_fh (k := k + 1) (S := T7) hok hdl hv), PM_of (e_is (k := k + 4) (S := T7) (a := fh dm v) (b := fh dm v)), bb]
        subst hK3
        rw [SQ_nx, PZ_seq]
        generalize hK3 : SQ _ _ = K3
        rw [PZ_asg]
        refine (x_at (k := k + 4) ht hdl hp12 rfl rfl rfl).imp ?_
        rintro d U1 ⟨i, j2, rfl, hq1⟩
        rw [PZ_tup rfl]
        simp only [PM_ret, PM_bind, PM_guard, PM_slot', PM_eC, PM_eOp, PM_eUn, PM_eT, PM_tV, PM_eAnd, PM_eOr, PM_tAnd, PM_tOr, PM_tNot, PM_eIf, PM_tIf, PM_tCmp, PM_tChn, PM_last, PM_more, PM_aNil, PM_aCons, PM_eTup, PM_eLst, PM_eCall, PM_eNew, PM_eDrop, PM_add, PM_sub, PM_mul, PM_fdiv, PM_mod, PM_pow, PM_neg, PM_lt, PM_le, PM_gt, PM_ge, PM_eqi, PM_nei, own_int, own_bl, own_tup, own_str, PM_isNon, PM_isBl, PM_isnot, PM_tbl, PM_tint, PM_tnon, PM_ttup, PM_lenT, PM_lenF, PM_int, PM_abs, PM_tupT, PM_lstF, PM_ixT, PM_eM, PM_iSeq, PM_seqT, PM_seqF, PM_rng1, PM_rng2, PM_enum, PZ_bind, PZ_nx, PZ_bk, PZ_ct, PZ_rt, SQ_nx, SQ_rt, SQ_ct, SQ_bk, TQ_nx, TQ_ct, TQ_bk, TQ_rt, PZ_seq, PZ_ret, PZ_drop, PZ_if, PZ_asg, PZ_one, PZ_par, PZ_allN, PZ_allC, PZ_tup, PZ_sub, PZ_fld, PZ_for, List.getElem?_cons_zero, List.getElem?_cons_succ, Option.some.injEq, exists_eq_left', exists_eq_left, List.set_cons_zero, List.set_cons_succ, setAll, List.length_cons, List.length_nil, List.map_cons, List.map_nil, Nat.reduceAdd, Nat.reduceSub, List.replicate, List.cons_append, List.nil_append, true_and, and_true, Bool.not_true, Bool.not_false, if_true, if_false, Bool.false_eq_true, D.int.injEq, D.isNon, D.isBl, Nat.reduceLeDiff, dropR_len, Nat.le_refl, ite_true, ite_false, reduceCtorEq]
        subst hK3
        rw [SQ_nx, PZ_seq]
        generalize hK3 : SQ _ _ = K3
        rw [PZ_asg]
        refine (x_seven (i := i) (j := j2) hq1 rfl rfl).imp ?_
        rintro d10 U2 ⟨hl10, hq2⟩
        simp only [PZ_one]
        subst hK3
        rw [SQ_nx, PZ_seq]
        generalize hK3 : SQ _ _ = K3
        rw [PZ_asg]
        refine (x_draws (k := k + 4) (n := 0) (i := i) (j := j2) hq2 hl10 rfl rfl rfl rfl).imp ?_
        rintro d10 U3 ⟨hl10, hq3⟩
        simp only [PZ_one]
        subst hK3
        rw [SQ_nx, PZ_seq]
        generalize hK3 : SQ _ _ = K3
        rw [PZ_asg]
        refine (x_two (k := k + 3) hq3 hl10 rfl rfl).imp ?_
        rintro d U4 ⟨⟨one, two, rfl, s1, s2⟩, hq4⟩
        rw [PZ_tup rfl]
        simp only [PM_ret, PM_bind, PM_guard, PM_slot', PM_eC, PM_eOp, PM_eUn, PM_eT, PM_tV, PM_eAnd, PM_eOr, PM_tAnd, PM_tOr, PM_tNot, PM_eIf, PM_tIf, PM_tCmp, PM_tChn, PM_last, PM_more, PM_aNil, PM_aCons, PM_eTup, PM_eLst, PM_eCall, PM_eNew, PM_eDrop, PM_add, PM_sub, PM_mul, PM_fdiv, PM_mod, PM_pow, PM_neg, PM_lt, PM_le, PM_gt, PM_ge, PM_eqi, PM_nei, own_int, own_bl, own_tup, own_str, PM_isNon, PM_isBl, PM_isnot, PM_tbl, PM_tint, PM_tnon, PM_ttup, PM_lenT, PM_lenF, PM_int, PM_abs, PM_tupT, PM_lstF, PM_ixT, PM_eM, PM_iSeq, PM_seqT, PM_seqF, PM_rng1, PM_rng2, PM_enum, PZ_bind, PZ_nx, PZ_bk, PZ_ct, PZ_rt, SQ_nx, SQ_rt, SQ_ct, SQ_bk, TQ_nx, TQ_ct, TQ_bk, TQ_rt, PZ_seq, PZ_ret, PZ_drop, PZ_if, PZ_asg, PZ_one, PZ_par, PZ_allN, PZ_allC, PZ_tup, PZ_sub, PZ_fld, PZ_for, List.getElem?_cons_zero, List.getElem?_cons_succ, Option.some.injEq, exists_eq_left', exists_eq_left, List.set_cons_zero, List.set_cons_succ, setAll, List.length_cons, List.length_nil, List.map_cons, List.map_nil, Nat.reduceAdd, Nat.reduceSub, List.replicate, List.cons_append, List.nil_append, true_and, and_true, Bool.not_true, Bool.not_false, if_true, if_false, Bool.false_eq_true, D.int.injEq, D.isNon, D.isBl, Nat.reduceLeDiff, dropR_len, Nat.le_refl, ite_true, ite_false, reduceCtorEq]
        subst hK3
        rw [SQ_nx, PZ_seq]
        generalize hK3 : SQ _ _ = K3
        rw [PZ_asg]
        refine (x_value (k := k + 2) (j := 1) (t := t) (z := .int i) (by decide) (fun S => e_clash (k := k + 2) s1 s2) (fun S Q => PM_slot rfl) (fun S Q => PM_slot rfl) s1 s2 ht ⟨i, rfl⟩ hq4 rfl rfl rfl).imp ?_
        rintro v U5 ⟨hv, hq5⟩
        simp only [PZ_one]
        subst hK3
        rw [SQ_nx, PZ_seq]
        generalize hK3 : SQ _ _ = K3
        rw [PZ_asg]
        refine (x_good3 (k := k + 4) (dm := dm) hv rfl rfl).imp ?_
        rintro d U6 ⟨rfl, rfl⟩
        simp only [PZ_one]
        subst hK3
        rw [SQ_nx, PZ_seq]
        generalize hK3 : SQ _ _ = K3
        have fin : ∀ (x17 x18 : Option D), K3 (.nx [some (.flst (ns.map .int)), some (.ref 0), a2, some (.tup (dm.map dD)), some t, some (.int (lc dm)), a6, a7, some d8, some (.int z), some d10, some one, some two, some v, some (.bl (ch dm v)), some (.int i), some (.int j2), x17, x18] U6) := fun x17 x18 => by
          subst hK3
          rw [SQ_nx]
          simp only [PM_ret, PM_bind, PM_guard, PM_slot', PM_eC, PM_eOp, PM_eUn, PM_eT, PM_tV, PM_eAnd, PM_eOr, PM_tAnd, PM_tOr, PM_tNot, PM_eIf, PM_tIf, PM_tCmp, PM_tChn, PM_last, PM_more, PM_aNil, PM_aCons, PM_eTup, PM_eLst, PM_eCall, PM_eNew, PM_eDrop, PM_add, PM_sub, PM_mul, PM_fdiv, PM_mod, PM_pow, PM_neg, PM_lt, PM_le, PM_gt, PM_ge, PM_eqi, PM_nei, own_int, own_bl, own_tup, own_str, PM_isNon, PM_isBl, PM_isnot, PM_tbl, PM_tint, PM_tnon, PM_ttup, PM_lenT, PM_lenF, PM_int, PM_abs, PM_tupT, PM_lstF, PM_ixT, PM_eM, PM_iSeq, PM_seqT, PM_seqF, PM_rng1, PM_rng2, PM_enum, PZ_bind, PZ_nx, PZ_bk, PZ_ct, PZ_rt, SQ_nx, SQ_rt, SQ_ct, SQ_bk, TQ_nx, TQ_ct, TQ_bk, TQ_rt, PZ_seq, PZ_ret, PZ_drop, PZ_if, PZ_asg, PZ_one, PZ_par, PZ_allN, PZ_allC, PZ_tup, PZ_sub, PZ_fld, PZ_for, List.getElem?_cons_zero, List.getElem?_cons_succ, Option.some.injEq, exists_eq_left', exists_eq_left, List.set_cons_zero, List.set_cons_succ, setAll, List.length_cons, List.length_nil, List.map_cons, List.map_nil, Nat.reduceAdd, Nat.reduceSub, List.replicate, List.cons_append, List.nil_append, true_and, and_true, Bool.not_true, Bool.not_false, if_true, if_false, Bool.false_eq_true, D.int.injEq, D.isNon, D.isBl, Nat.reduceLeDiff, dropR_len, Nat.le_refl, ite_true, ite_false, reduceCtorEq, PM_of (e_ch (k := k + 1) (S := U6) hok hdl hv), PM_of (e_is (k := k + 4) (S := U6) (a := ch dm v) (b := ch dm v)), bb]
          exact ⟨hq5, _, _, _, _, _, _, _, _, _, _, _, _, _, _, rfl⟩
        cases hg3 : g3 dm.length v with
        | false =>
          simp only [PM_ret, PM_bind, PM_guard, PM_slot', PM_eC, PM_eOp, PM_eUn, PM_eT, PM_tV, PM_eAnd, PM_eOr, PM_tAnd, PM_tOr, PM_tNot, PM_eIf, PM_tIf, PM_tCmp, PM_tChn, PM_last, PM_more, PM_aNil, PM_aCons, PM_eTup, PM_eLst, PM_eCall, PM_eNew, PM_eDrop, PM_add, PM_sub, PM_mul, PM_fdiv, PM_mod, PM_pow, PM_neg, PM_lt, PM_le, PM_gt, PM_ge, PM_eqi, PM_nei, own_int, own_bl, own_tup, own_str, PM_isNon, PM_isBl, PM_isnot, PM_tbl, PM_tint, PM_tnon, PM_ttup, PM_lenT, PM_lenF, PM_int, PM_abs, PM_tupT, PM_lstF, PM_ixT, PM_eM, PM_iSeq, PM_seqT, PM_seqF, PM_rng1, PM_rng2, PM_enum, PZ_bind, PZ_nx, PZ_bk, PZ_ct, PZ_rt, SQ_nx, SQ_rt, SQ_ct, SQ_bk, TQ_nx, TQ_ct, TQ_bk, TQ_rt, PZ_seq, PZ_ret, PZ_drop, PZ_if, PZ_asg, PZ_one, PZ_par, PZ_allN, PZ_allC, PZ_tup, PZ_sub, PZ_fld, PZ_for, List.getElem?_cons_zero, List.getElem?_cons_succ, Option.some.injEq, exists_eq_left', exists_eq_left, List.set_cons_zero, List.set_cons_succ, setAll, List.length_cons, List.length_nil, List.map_cons, List.map_nil, Nat.reduceAdd, Nat.reduceSub, List.replicate, List.cons_append, List.nil_append, true_and, and_true, Bool.not_true, Bool.not_false, if_true, if_false, Bool.false_eq_true, D.int.injEq, D.isNon, D.isBl, Nat.reduceLeDiff, dropR_len, Nat.le_refl, ite_true, ite_false, reduceCtorEq]
          have := fin a17 a18
          rw [g3_ch hg3] at this
          exact this
        | true =>
          obtain ⟨x, y, p, q, rfl, hx, hy, hpm, hqm, hch⟩ := g3_true hg3
          have hgz : ((Nat.gcd p.2 q.2 : Nat) : Int) ≠ 0 := by
            have := Nat.gcd_pos_of_pos_left q.2 (show 0 < p.2 by have := (hok p hpm).2.2.1; omega)
            omega
          have hpp : dD p = .tup [.int p.1, .int p.2] := rfl
          have hqq : dD q = .tup [.int q.1, .int q.2] := rfl
          simp only [PM_ret, PM_bind, PM_guard, PM_slot', PM_eC, PM_eOp, PM_eUn, PM_eT, PM_tV, PM_eAnd, PM_eOr, PM_tAnd, PM_tOr, PM_tNot, PM_eIf, PM_tIf, PM_tCmp, PM_tChn, PM_last, PM_more, PM_aNil, PM_aCons, PM_eTup, PM_eLst, PM_eCall, PM_eNew, PM_eDrop, PM_add, PM_sub, PM_mul, PM_fdiv, PM_mod, PM_pow, PM_neg, PM_lt, PM_le, PM_gt, PM_ge, PM_eqi, PM_nei, own_int, own_bl, own_tup, own_str, PM_isNon, PM_isBl, PM_isnot, PM_tbl, PM_tint, PM_tnon, PM_ttup, PM_lenT, PM_lenF, PM_int, PM_abs, PM_tupT, PM_lstF, PM_ixT, PM_eM, PM_iSeq, PM_seqT, PM_seqF, PM_rng1, PM_rng2, PM_enum, PZ_bind, PZ_nx, PZ_bk, PZ_ct, PZ_rt, SQ_nx, SQ_rt, SQ_ct, SQ_bk, TQ_nx, TQ_ct, TQ_bk, TQ_rt, PZ_seq, PZ_ret, PZ_drop, PZ_if, PZ_asg, PZ_one, PZ_par, PZ_allN, PZ_allC, PZ_tup, PZ_sub, PZ_fld, PZ_for, List.getElem?_cons_zero, List.getElem?_cons_succ, Option.some.injEq, exists_eq_left', exists_eq_left, List.set_cons_zero, List.set_cons_succ, setAll, List.length_cons, List.length_nil, List.map_cons, List.map_nil, Nat.reduceAdd, Nat.reduceSub, List.replicate, List.cons_append, List.nil_append, true_and, and_true, Bool.not_true, Bool.not_false, if_true, if_false, Bool.false_eq_true, D.int.injEq, D.isNon, D.isBl, Nat.reduceLeDiff, dropR_len, Nat.le_refl, ite_true, ite_false, reduceCtorEq, PM_fldO fl2, PM_fldO fl3, hx, hy, hpp, hqq, at0, at1, PM_of (e_lgcd (k := k + 4) (S := U6) p.2 q.2)]
          refine ⟨hgz, ?_⟩
          have := fin (some (dD p)) (some (dD q))
          rw [hch] at this
          have e : (!decide ((p.1 - q.1).fmod ((Nat.gcd p.2 q.2 : Nat) : Int) = 0)) = clashB p q := by
            unfold clashB; simp
          rw [e]
          exact this
      · rintro ρ S6 ⟨hp6, x2, x6, x7, x8, x9, x10, x11, x12, x13, x14, x15, x16, x17, x18, rfl⟩
        refine ⟨trivial, hp6, _, _, _, _, _, _, _, _, _, _, _, _, _, _, _, _, _, rfl⟩
  · rintro ρ S2 ⟨hp, a2, a3, a4, a5, a6, a7, a8, a9, a10, a11, a12, a13, a14, a15, a16, a17, a18, rfl⟩
    refine ⟨trivial, ?_⟩
    subst hK
    rw [SQ_nx]
    exact z_last (k := k + 2) rfl
theorem law_ok (ns : List Int) : ∃ S', (CC 40).fn 29 [.flst (ns.map .int)] [] = some (.ok (.bl true) S') := by
  obtain ⟨d, S', e, rfl⟩ := e_law (k := 34) (ns := ns)
  exact ⟨S', e⟩
end


end MP
theorem PySem.Challenge.cw_sumsmade_k72_leftovers_bent_holds : PySem.Challenge.rw_sumsmade_k72_leftovers_bent.Holds := by
  exact MP.holds fun ns _ _ => MP.law_ok ns
