import PyProof.Rows.All
import Wide.All
import OpenK.AllK
import Wide.FinOn
import HandS.ForMost
import HandS.IsInst
import HandS.Exc
import HandS.Wide
import HandS.TupAny
import HandS.TupLe
import HandS.Style
import HandS.Deep
import HandS.Dict
import HandS.Iter
import HandS.ExcInit
import HandS.SortInts
import HandS.ListItems
import HandS.Zip
import HandS.Rev
import HandS.TupMul
import HandS.Conv
import HandS.More
import HandS.Star
import KE.KUnpackStar
import KE.GoesEnum
import KE.GoesMore
import KE.KTupSum
import HandS.DictComp
import KE.KExcInit
import HandS.ExcField
import HandS.TryMany
import KE.KExcLine
import KE.RegKTryMore
import PySem.Challenge.RW_climborsink_k45_phases_of_a_chief
set_option Elab.async false
set_option linter.all false
set_option autoImplicit false
set_option maxRecDepth 100000
set_option maxHeartbeats 400000
/-! data, the store, what stands for what -/
namespace EV
open PySem PySem.Spec PyProof.Rows L2

/-- a dict's key: an int or a text; a tuple of such -/
inductive DK where
  | k (x : Key) | t (xs : List Key)
  deriving DecidableEq, Inhabited

inductive D where
  | non | bl (b : Bool) | int (i : Int) | str (x : Str)
  | tup (xs : List D) | lst (xs : List D) | dct (kvs : List (DK × D)) | st (xs : List D)
  | ref (n : Nat) | fn (x : Str) | ty (n : String) | scr (xs : List Int)
  | exc (C : Str) (fs : List (Str × D))
  deriving Inhabited

/-- a slot of a frame, of an object: none, a value, an own list, an own dict (t: with tuples for keys) -/
inductive Slot where
  | un | vl (d : D) | ol (ds : List D) | od (t : Bool) (kvs : List (DK × D))
  deriving Inhabited

/-- an object that may change, of the store -/
inductive SObj where
  | cell (s : Slot)
  | ins (C : Str) (fs : List (Str × D))
  | gone
  deriving Inhabited

abbrev Store := List SObj
abbrev En := List Slot

/-- an error: its class by name, its fields -/
structure Er where
  cls : Str
  fs : List (Str × D)
  deriving Inhabited

inductive Res (α : Type) where
  | ok (a : α) (st : Store)
  | er (e : Er) (st : Store)
  | stuck

inductive ResS where
  | nx (env : En) (st : Store)
  | rt (d : D) (st : Store)
  | br (env : En) (st : Store)
  | ct (env : En) (st : Store)
  | er (e : Er) (env : En) (st : Store)
  | stuck

@[inline] def Res.bind {α β : Type} (r : Res α) (f : α → Store → Res β) : Res β :=
  match r with
  | .ok a st => f a st
  | .er e st => .er e st
  | .stuck => .stuck

/-- what stands for what: the frozen part of the heap, the store's objects with what they own -/
structure G where
  kp : Hp
  m : List (Addr × List Addr)

def G.rs (g : G) : List Addr := g.m.map (·.1)
def fpOf (m : List (Addr × List Addr)) : List Addr := m.flatMap fun p => p.2
def G.fp (g : G) : List Addr := fpOf g.m

/-- a tuple: tracked, or of the written part -/
def TupAt (K : PySem.W.Frag) (H : Hp) (a : Addr) (xs : List V) : Prop :=
  H a = some (.tup xs) ∨ (∃ o : Obj, K.lookup a = some o) ∧ False
theorem TupAt.tr {K : PySem.W.Frag} {H : Hp} {a : Addr} {xs : List V} (h : TupAt K H a xs) : H a = some (.tup xs) := h.elim id fun z => z.2.elim
theorem TupAt.sq {K : PySem.W.Frag} {H : Hp} {a : Addr} {xs : List V} (h : TupAt K H a xs) : SqT K H a xs := h.elim (fun h => .inl (.inl h)) fun z => z.2.elim
/-- a tuple of the module -/
def KTup (K : PySem.W.Frag) (a : Addr) (xs : List V) : Prop :=
  ∃ (o : Obj) (its : Array Value) (n : Nat), K.lookup a = some o ∧ o.cls = .type "tuple" ∧ o.data = .seq its n ∧ its.size ≤ sizeLine ∧ Vals xs its.toList
theorem KTup.sq {K : PySem.W.Frag} {H : Hp} {a : Addr} {xs : List V} (h : KTup K a xs) : SqT K H a xs := .inr h
/-- an exception that was caught, at a, of the class at c, with its dict at dd -/
def xcO (a c dd : Addr) : HO := .ext fun h => ∃ oe vs, h.get? a = some oe ∧ oe.cls = .ref c ∧ oe.dict = some dd ∧ oe.data = .fields vs
section
variable (K : PySem.W.Frag) (mg : Str → Option Value)
mutual
inductive Rep (g : G) : D → V → Prop
  | non : Rep g .non .non
  | bl (b : Bool) : Rep g (.bl b) (.bl b)
  | int (i : Int) : Rep g (.int i) (.int i)
  | str (x : Str) : Rep g (.str x) (.str x)
  | tup {a : Addr} {vs : List V} {ds : List D} : TupAt K g.kp a vs → RepL g ds vs → Rep g (.tup ds) (.ref a)
  | lst {a : Addr} {vs : List V} {ds : List D} : g.kp a = some (.lst vs) → RepL g ds vs → Rep g (.lst ds) (.ref a)
  | scr {a : Addr} {xs : List Int} : SqL K g.kp a (xs.map V.int) → Rep g (.scr xs) (.ref a)
  | ref {n : Nat} {a : Addr} : g.rs[n]? = some a → Rep g (.ref n) (.ref a)
  | fn {x : Str} {a : Addr} : mg x = some (.ref a) → PySem.W.keepIn K (.ref a) = true → Rep g (.fn x) (.ref a)
  | ty (n : String) : Rep g (.ty n) (.ty n)
  | kst {a : Addr} {vs : List V} {ds : List D} : KTup K a vs → RepL g ds vs → Rep g (.st ds) (.ref a)
  | dct {a : Addr} {ob : Obj} {o : HO} {kvs : List (DK × D)} : g.kp a = some (.frz ob o) → RepD g kvs o → Rep g (.dct kvs) (.ref a)
  | exc {C : Str} {c a dd : Addr} {fs : List (Str × D)} {zs : List (Str × V)} : mg C = some (.ref c) → g.kp a = some (xcO a c dd) → g.kp dd = some (.xd zs) → RepF g fs zs → Rep g (.exc C fs) (.ref a)
inductive RepL (g : G) : List D → List V → Prop
  | nil : RepL g [] []
  | cons {d : D} {ds : List D} {v : V} {vs : List V} : Rep g d v → RepL g ds vs → RepL g (d :: ds) (v :: vs)
/-- a dict's entries -/
inductive RepD (g : G) : List (DK × D) → HO → Prop
  | nilK : RepD g [] (.dK [])
  | nilT : RepD g [] (.dT [])
  | consK {x : Key} {d : D} {v : V} {kvs : List (DK × D)} {zs : List (Key × V)} : Rep g d v → RepD g kvs (.dK zs) → RepD g ((.k x, d) :: kvs) (.dK ((x, v) :: zs))
  | consT {x : List Key} {d : D} {v : V} {kvs : List (DK × D)} {zs : List (List Key × V)} : Rep g d v → RepD g kvs (.dT zs) → RepD g ((.t x, d) :: kvs) (.dT ((x, v) :: zs))
/-- attributes -/
inductive RepF (g : G) : List (Str × D) → List (Str × V) → Prop
  | nil : RepF g [] []
  | cons {x : Str} {d : D} {v : V} {fs : List (Str × D)} {zs : List (Str × V)} : Rep g d v → RepF g fs zs → RepF g ((x, d) :: fs) ((x, v) :: zs)
end
end

section
variable {K : PySem.W.Frag} {mg : Str → Option Value}
theorem RepL.length {g : G} : ∀ {ds : List D} {vs : List V}, RepL K mg g ds vs → ds.length = vs.length
  | _, _, .nil => rfl
  | _, _, .cons _ t => by simp [RepL.length t]
theorem RepL.get {g : G} : ∀ {ds : List D} {vs : List V} {i : Nat} {d : D}, RepL K mg g ds vs → ds[i]? = some d → ∃ v, vs[i]? = some v ∧ Rep K mg g d v
  | _, _, _, _, .nil, e => by simp at e
  | _, _, 0, _, .cons r _, e => by simp at e; subst e; exact ⟨_, rfl, r⟩
  | _, _, i + 1, d, .cons _ t, e => by
    obtain ⟨u, h1, h2⟩ := RepL.get (i := i) (d := d) t (by simpa using e)
    exact ⟨u, by simpa using h1, h2⟩
theorem RepL.get' {g : G} : ∀ {ds : List D} {vs : List V} {i : Nat} {v : V}, RepL K mg g ds vs → vs[i]? = some v → ∃ d, ds[i]? = some d ∧ Rep K mg g d v
  | _, _, _, _, .nil, e => by simp at e
  | _, _, 0, _, .cons r _, e => by simp at e; subst e; exact ⟨_, rfl, r⟩
  | _, _, i + 1, d, .cons _ t, e => by
    obtain ⟨u, h1, h2⟩ := RepL.get' (i := i) (v := d) t (by simpa using e)
    exact ⟨u, by simpa using h1, h2⟩
theorem RepL.append {g : G} : ∀ {ds es : List D} {vs ws : List V}, RepL K mg g ds vs → RepL K mg g es ws → RepL K mg g (ds ++ es) (vs ++ ws)
  | _, _, _, _, .nil, s => s
  | _, _, _, _, .cons r t, s => .cons r (RepL.append t s)
theorem RepL.take {g : G} : ∀ {ds : List D} {vs : List V} (n : Nat), RepL K mg g ds vs → RepL K mg g (ds.take n) (vs.take n)
  | _, _, 0, _ => .nil
  | _, _, _ + 1, .nil => .nil
  | _, _, n + 1, .cons r t => .cons r (RepL.take n t)
theorem RepL.drop {g : G} : ∀ {ds : List D} {vs : List V} (n : Nat), RepL K mg g ds vs → RepL K mg g (ds.drop n) (vs.drop n)
  | _, _, 0, r => r
  | _, _, _ + 1, .nil => .nil
  | _, _, n + 1, .cons _ t => RepL.drop n t
theorem RepL.set {g : G} {d : D} {v : V} (r : Rep K mg g d v) : ∀ {ds : List D} {vs : List V} (i : Nat), RepL K mg g ds vs → RepL K mg g (ds.set i d) (vs.set i v)
  | _, _, _, .nil => .nil
  | _, _, 0, .cons _ t => .cons r t
  | _, _, i + 1, .cons q t => .cons q (RepL.set r i t)
theorem RepL.reverse {g : G} : ∀ {ds : List D} {vs : List V}, RepL K mg g ds vs → RepL K mg g ds.reverse vs.reverse
  | _, _, .nil => .nil
  | _, _, .cons r t => by rw [List.reverse_cons, List.reverse_cons]; exact (RepL.reverse t).append (.cons r .nil)
theorem RepL.one {g : G} {d : D} {vs : List V} (h : RepL K mg g [d] vs) : ∃ v, vs = [v] ∧ Rep K mg g d v := by
  cases h with
  | cons r t => cases t; exact ⟨_, rfl, r⟩
theorem RepL.two {g : G} {d e : D} {vs : List V} (h : RepL K mg g [d, e] vs) : ∃ v w, vs = [v, w] ∧ Rep K mg g d v ∧ Rep K mg g e w := by
  cases h with
  | cons r t =>
    obtain ⟨w, rfl, q⟩ := t.one
    exact ⟨_, _, rfl, r, q⟩
theorem RepL.three {g : G} {d e f : D} {vs : List V} (h : RepL K mg g [d, e, f] vs) : ∃ v w x, vs = [v, w, x] ∧ Rep K mg g d v ∧ Rep K mg g e w ∧ Rep K mg g f x := by
  cases h with
  | cons r t =>
    obtain ⟨w, x, rfl, q, q'⟩ := t.two
    exact ⟨_, _, _, rfl, r, q, q'⟩

/-- the frozen part grows, the objects stay -/
structure Ext (g g' : G) : Prop where
  kp : ∀ a o, g.kp a = some o → g'.kp a = some o
  rs : ∀ (n : Nat) (a : Addr), g.rs[n]? = some a → g'.rs[n]? = some a
theorem Ext.refl (g : G) : Ext g g := ⟨fun _ _ h => h, fun _ _ h => h⟩
theorem Ext.trans {g g1 g2 : G} (a : Ext g g1) (b : Ext g1 g2) : Ext g g2 := ⟨fun c o h => b.kp c o (a.kp c o h), fun c o h => b.rs c o (a.rs c o h)⟩
theorem tupAt_ext {g g' : G} (e : Ext g g') {a : Addr} {vs : List V} (h : TupAt K g.kp a vs) : TupAt K g'.kp a vs := by
  rcases h with h | h
  · exact .inl (e.kp _ _ h)
  · exact .inr h
theorem sqL_ext {g g' : G} (e : Ext g g') {a : Addr} {vs : List V} (h : SqL K g.kp a vs) : SqL K g'.kp a vs := by
  rcases h with (h | ⟨o, h⟩) | h
  · exact .inl (.inl (e.kp _ _ h))
  · exact .inl (.inr ⟨o, e.kp _ _ h⟩)
  · exact .inr h
mutual
theorem Rep.ext {g g' : G} (e : Ext g g') : ∀ {d : D} {v : V}, Rep K mg g d v → Rep K mg g' d v
  | _, _, .non => .non
  | _, _, .bl b => .bl b
  | _, _, .int i => .int i
  | _, _, .str x => .str x
  | _, _, .tup h r => .tup (tupAt_ext e h) (RepL.ext e r)
  | _, _, .lst h r => .lst (e.kp _ _ h) (RepL.ext e r)
  | _, _, .scr h => .scr (sqL_ext e h)
  | _, _, .ref h => .ref (e.rs _ _ h)
  | _, _, .fn h k => .fn h k
  | _, _, .ty n => .ty n
  | _, _, .kst h r => .kst h (RepL.ext e r)
  | _, _, .dct h r => .dct (e.kp _ _ h) (RepD.ext e r)
  | _, _, .exc m h d r => .exc m (e.kp _ _ h) (e.kp _ _ d) (RepF.ext e r)
theorem RepL.ext {g g' : G} (e : Ext g g') : ∀ {ds : List D} {vs : List V}, RepL K mg g ds vs → RepL K mg g' ds vs
  | _, _, .nil => .nil
  | _, _, .cons r t => .cons (Rep.ext e r) (RepL.ext e t)
theorem RepD.ext {g g' : G} (e : Ext g g') : ∀ {kvs : List (DK × D)} {o : HO}, RepD K mg g kvs o → RepD K mg g' kvs o
  | _, _, .nilK => .nilK
  | _, _, .nilT => .nilT
  | _, _, .consK r t => .consK (Rep.ext e r) (RepD.ext e t)
  | _, _, .consT r t => .consT (Rep.ext e r) (RepD.ext e t)
theorem RepF.ext {g g' : G} (e : Ext g g') : ∀ {fs : List (Str × D)} {zs : List (Str × V)}, RepF K mg g fs zs → RepF K mg g' fs zs
  | _, _, .nil => .nil
  | _, _, .cons r t => .cons (Rep.ext e r) (RepF.ext e t)
end
/-- which kind of dict -/
def HO.isD : Bool → HO → Prop
  | false, .dK _ => True
  | true, .dT _ => True
  | _, _ => False

/-- a slot's content in the heap, with the addresses that it owns -/
inductive SlotOk (K : PySem.W.Frag) (mg : Str → Option Value) (g : G) (H : Hp) : Slot → Option V → List Addr → Prop
  | un (o : Option V) : SlotOk K mg g H .un o []
  | vl {d : D} {v : V} : Rep K mg g d v → SlotOk K mg g H (.vl d) (some v) []
  | ol {ds : List D} {a : Addr} {vs : List V} : H a = some (.lst vs) → RepL K mg g ds vs → SlotOk K mg g H (.ol ds) (some (.ref a)) [a]
  | od {t : Bool} {kvs : List (DK × D)} {a : Addr} {o : HO} : H a = some o → RepD K mg g kvs o → HO.isD t o → (kvs.map (·.1)).Nodup → SlotOk K mg g H (.od t kvs) (some (.ref a)) [a]

/-- a frame's slots -/
inductive EnvOk (K : PySem.W.Frag) (mg : Str → Option Value) (g : G) (H : Hp) : En → L2.St → List Addr → Prop
  | nil : EnvOk K mg g H [] [] []
  | cons {s : Slot} {o : Option V} {l : List Addr} {env : En} {σ : L2.St} {os : List Addr} : SlotOk K mg g H s o l → EnvOk K mg g H env σ os → EnvOk K mg g H (s :: env) (o :: σ) (l ++ os)

/-- an object of the store -/
inductive ObOk (K : PySem.W.Frag) (mg : Str → Option Value) (g : G) (H : Hp) : SObj → Addr × List Addr → Prop
  | cell {s : Slot} {a : Addr} : SlotOk K mg g H s (some (.ref a)) [a] → ObOk K mg g H (.cell s) (a, [a])
  | ins {C : Str} {fs : List (Str × D)} {zs : List (Str × V)} {a dx c : Addr} : mg C = some (.ref c) → H a = some (.ins c dx zs) → H dx = some (.own a) → dx ≠ a → RepF K mg g fs zs → ObOk K mg g H (.ins C fs) (a, [a, dx])
  | gone {a : Addr} : ObOk K mg g H .gone (a, [])

inductive StOk (K : PySem.W.Frag) (mg : Str → Option Value) (g : G) (H : Hp) : Store → List (Addr × List Addr) → Prop
  | nil : StOk K mg g H [] []
  | cons {o : SObj} {p : Addr × List Addr} {st : Store} {m : List (Addr × List Addr)} : ObOk K mg g H o p → StOk K mg g H st m → StOk K mg g H (o :: st) (p :: m)

/-- the state as a whole -/
structure SOk (K : PySem.W.Frag) (mg : Str → Option Value) (g : G) (st : Store) (H : Hp) : Prop where
  kp : ∀ a o, g.kp a = some o → H a = some o
  nd : g.fp.Nodup
  fr : ∀ a ∈ g.fp, g.kp a = none
  th : ∀ a ∈ g.fp, H a ≠ none
  ob : StOk K mg g H st g.m

/-- what a frame owns -/
structure OsOk (g : G) (H : Hp) (os : List Addr) : Prop where
  nd : os.Nodup
  th : ∀ a ∈ os, H a ≠ none
  kp : ∀ a ∈ os, g.kp a = none
  fp : ∀ a ∈ os, a ∉ g.fp

structure Step (g : G) (H : Hp) (os : List Addr) (g' : G) (H' : Hp) (os' : List Addr) : Prop where
  ext : Ext g g'
  fr : ∀ a, H a ≠ none → a ∉ g.fp → a ∉ os → H' a = H a
  th : ∀ a, H a ≠ none → H' a ≠ none
  nf : ∀ a ∈ g'.fp, a ∈ g.fp ∨ H a = none ∨ a ∈ os
  nk : ∀ a, g'.kp a ≠ none → g.kp a ≠ none ∨ H a = none ∨ a ∈ os ∨ a ∈ g.fp
  no : ∀ a ∈ os', a ∈ os ∨ H a = none

theorem Step.refl {g : G} {H : Hp} {os : List Addr} : Step g H os g H os :=
  ⟨Ext.refl g, fun _ _ _ _ => rfl, fun _ h => h, fun _ h => .inl h, fun _ h => .inl h, fun _ h => .inl h⟩
theorem Step.trans {g g1 g2 : G} {H H1 H2 : Hp} {os os1 os2 : List Addr} (a : Step g H os g1 H1 os1) (b : Step g1 H1 os1 g2 H2 os2) : Step g H os g2 H2 os2 where
  ext := a.ext.trans b.ext
  fr := fun x h hf ho => by
    have e := a.fr x h hf ho
    have h1 : H1 x ≠ none := a.th x h
    have f1 : x ∉ g1.fp := fun z => by
      rcases a.nf x z with q | q | q
      · exact hf q
      · exact h q
      · exact ho q
    have o1 : x ∉ os1 := fun z => by
      rcases a.no x z with q | q
      · exact ho q
      · exact h q
    rw [b.fr x h1 f1 o1, e]
  th := fun x h => b.th x (a.th x h)
  nf := fun x h => by
    rcases b.nf x h with q | q | q
    · exact a.nf x q
    · refine .inr (.inl ?_)
      cases e : H x with
      | none => rfl
      | some o => exact absurd q (a.th x (by rw [e]; simp))
    · rcases a.no x q with r | r
      · exact .inr (.inr r)
      · exact .inr (.inl r)
  nk := fun x h => by
    rcases b.nk x h with q | q | q | q
    · exact a.nk x q
    · refine .inr (.inl ?_)
      cases e : H x with
      | none => rfl
      | some o => exact absurd q (a.th x (by rw [e]; simp))
    · rcases a.no x q with r | r
      · exact .inr (.inr (.inl r))
      · exact .inr (.inl r)
    · rcases a.nf x q with r | r | r
      · exact .inr (.inr (.inr r))
      · exact .inr (.inl r)
      · exact .inr (.inr (.inl r))
  no := fun x h => by
    rcases b.no x h with q | q
    · exact a.no x q
    · refine .inr ?_
      cases e : H x with
      | none => rfl
      | some o => exact absurd q (a.th x (by rw [e]; simp))
/-- a step that no slot is changed by, in a frame -/
theorem Step.frame {g g' : G} {H H' : Hp} (os : List Addr) (a : Step g H [] g' H' []) : Step g H os g' H' os :=
  ⟨a.ext, fun x h hf _ => a.fr x h hf (by simp), a.th, fun x h => (a.nf x h).imp_right (fun q => q.elim Or.inl (fun z => nomatch z)), fun x h => (a.nk x h).imp_right (fun q => q.elim Or.inl (fun z => z.elim (fun z => nomatch z) fun z => .inr (.inr z))), fun _ h => .inl h⟩
theorem OsOk.step {g g' : G} {H H' : Hp} {os : List Addr} (o : OsOk g H os) (a : Step g H [] g' H' []) : OsOk g' H' os where
  nd := o.nd
  th := fun x h => a.th x (o.th x h)
  kp := fun x h => by
    cases e : g'.kp x with
    | none => rfl
    | some u =>
      rcases a.nk x (by rw [e]; simp) with q | q | q | q
      · exact absurd (o.kp x h) q
      · exact absurd q (o.th x h)
      · exact nomatch q
      · exact absurd q (o.fp x h)
  fp := fun x h z => by
    rcases a.nf x z with q | q | q
    · exact o.fp x h q
    · exact o.th x h q
    · exact nomatch q
theorem SlotOk.step {g g' : G} {H H' : Hp} {s : Slot} {o : Option V} {l : List Addr} (h : SlotOk K mg g H s o l) (e : Ext g g') (k : ∀ a ∈ l, H' a = H a) : SlotOk K mg g' H' s o l := by
  cases h with
  | un => exact .un o
  | vl r => exact .vl (r.ext e)
  | ol h r => exact .ol ((k _ List.mem_cons_self).trans h) (r.ext e)
  | od h r q nd => exact .od ((k _ List.mem_cons_self).trans h) (r.ext e) q nd
theorem EnvOk.step {g g' : G} {H H' : Hp} (e : Ext g g') : ∀ {env : En} {σ : L2.St} {os : List Addr}, EnvOk K mg g H env σ os → (∀ a ∈ os, H' a = H a) → EnvOk K mg g' H' env σ os
  | _, _, _, .nil, _ => .nil
  | _, _, _, .cons h t, k => .cons (h.step e fun a ha => k a (List.mem_append_left _ ha)) (EnvOk.step e t fun a ha => k a (List.mem_append_right _ ha))
theorem EnvOk.step' {g g' : G} {H H' : Hp} {env : En} {σ : L2.St} {os : List Addr} (h : EnvOk K mg g H env σ os) (o : OsOk g H os) (a : Step g H [] g' H' []) : EnvOk K mg g' H' env σ os :=
  h.step a.ext fun x hx => a.fr x (o.th x hx) (o.fp x hx) (by simp)
theorem ObOk.step {g g' : G} {H H' : Hp} {ob : SObj} {p : Addr × List Addr} (h : ObOk K mg g H ob p) (e : Ext g g') (k : ∀ a ∈ p.2, H' a = H a) : ObOk K mg g' H' ob p := by
  cases h with
  | cell h => exact .cell (h.step e fun a ha => k a (by simpa using ha))
  | ins m h hd ne r => exact .ins m ((k _ List.mem_cons_self).trans h) ((k _ (by simp)).trans hd) ne (r.ext e)
  | gone => exact .gone
theorem fpOf_cons (p : Addr × List Addr) (m : List (Addr × List Addr)) : fpOf (p :: m) = p.2 ++ fpOf m := by
  simp [fpOf]
theorem StOk.step {g g' : G} {H H' : Hp} (e : Ext g g') : ∀ {st : Store} {m : List (Addr × List Addr)}, StOk K mg g H st m → (∀ a ∈ fpOf m, H' a = H a) → StOk K mg g' H' st m
  | _, _, .nil, _ => .nil
  | _, _, .cons h t, k => .cons (h.step e fun a ha => k a (by rw [fpOf_cons]; exact List.mem_append_left _ ha)) (StOk.step e t fun a ha => k a (by rw [fpOf_cons]; exact List.mem_append_right _ ha))
theorem StOk.length {g : G} {H : Hp} : ∀ {st : Store} {m : List (Addr × List Addr)}, StOk K mg g H st m → st.length = m.length
  | _, _, .nil => rfl
  | _, _, .cons _ t => by simp [StOk.length t]
theorem StOk.get {g : G} {H : Hp} : ∀ {st : Store} {m : List (Addr × List Addr)} {n : Nat} {o : SObj}, StOk K mg g H st m → st[n]? = some o → ∃ p, m[n]? = some p ∧ ObOk K mg g H o p
  | _, _, _, _, .nil, e => by simp at e
  | _, _, 0, _, .cons r _, e => by simp at e; subst e; exact ⟨_, rfl, r⟩
  | _, _, i + 1, d, .cons _ t, e => by
    obtain ⟨u, h1, h2⟩ := StOk.get (n := i) (o := d) t (by simpa using e)
    exact ⟨u, by simpa using h1, h2⟩

/-! ### new frozen things -/
def G.freeze (g : G) (p : Addr) (o : HO) : G := ⟨upd g.kp p o, g.m⟩
theorem ext_freeze {g : G} {p : Addr} {o : HO} (hp : g.kp p = none) : Ext g (g.freeze p o) :=
  ⟨fun a u h => by show upd g.kp p o a = _; rw [upd_ne (ne_of_none h hp)]; exact h, fun _ _ h => h⟩
theorem SOk.kpn {g : G} {st : Store} {H : Hp} (S : SOk K mg g st H) {p : Addr} (hp : H p = none) : g.kp p = none := by
  cases e : g.kp p with
  | none => rfl
  | some o => rw [S.kp p o e] at hp; cases hp
theorem SOk.fpn {g : G} {st : Store} {H : Hp} (S : SOk K mg g st H) {p : Addr} (hp : H p = none) : p ∉ g.fp := fun z => S.th p z hp
/-- a thing is made that never changes -/
theorem SOk.newF {g : G} {st : Store} {H : Hp} (S : SOk K mg g st H) {p : Addr} {o : HO} (hp : H p = none) : SOk K mg (g.freeze p o) st (upd H p o) ∧ Step g H [] (g.freeze p o) (upd H p o) [] := by
  have hk := S.kpn hp
  have hf := S.fpn hp
  refine ⟨⟨fun a u h => ?_, S.nd, fun a ha => ?_, fun a ha => ?_, ?_⟩, ⟨ext_freeze hk, fun a h _ _ => ?_, fun a h => ?_, fun a h => .inl h, fun a h => ?_, fun _ h => nomatch h⟩⟩
  · by_cases e : a = p
    · subst e
      rw [upd_same]
      have h' : upd g.kp a o a = some u := h
      rw [upd_same] at h'
      exact h'
    · rw [upd_ne e]
      have h' : upd g.kp p o a = some u := h
      rw [upd_ne e] at h'
      exact S.kp a u h'
  · show upd g.kp p o a = none
    rw [upd_ne (by rintro rfl; exact hf ha)]
    exact S.fr a ha
  · rw [upd_ne (by rintro rfl; exact hf ha)]
    exact S.th a ha
  · exact S.ob.step (ext_freeze hk) fun a ha => upd_ne (by rintro rfl; exact hf ha)
  · exact upd_ne (by rintro rfl; exact h hp)
  · rw [upd_ne (by rintro rfl; exact h hp)]
    exact h
  · by_cases e : a = p
    · exact .inr (.inl (e ▸ hp))
    · have h' : upd g.kp p o a ≠ none := h
      rw [upd_ne e] at h'
      exact .inl h'
theorem rep_tupF {g : G} {p : Addr} {vs : List V} {ds : List D} (hk : g.kp p = none) (r : RepL K mg g ds vs) : Rep K mg (g.freeze p (.tup vs)) (.tup ds) (.ref p) :=
  .tup (.inl upd_same) (r.ext (ext_freeze hk))
theorem rep_lstF {g : G} {p : Addr} {vs : List V} {ds : List D} (hk : g.kp p = none) (r : RepL K mg g ds vs) : Rep K mg (g.freeze p (.lst vs)) (.lst ds) (.ref p) :=
  .lst upd_same (r.ext (ext_freeze hk))
end
end EV

set_option Elab.async false
set_option linter.all false
set_option autoImplicit false
set_option maxRecDepth 100000
set_option maxHeartbeats 400000
/-! judgements over data: expressions, arguments, tests -/
namespace EV
open PySem PySem.Spec PyProof.Rows L2

/-- what is wanted of an error -/
abbrev Wi := Er → Store → G → Hp → L2.St → Prop
abbrev W0 : Wi := fun _ _ _ _ _ => False

section
variable {α β γ δ : Type} (K : PySem.W.Frag) (mg : Str → Option Value)
def Post (R : G → α → β → Prop) (W : Wi) (g : G) (H : Hp) (σ : L2.St) (r : Res α) (Q : β → Hp → Prop) : Prop :=
  match r with
  | .ok a st' => ∀ v g' H', Step g H [] g' H' [] → R g' a v → SOk K mg g' st' H' → Q v H'
  | .er e st' => ∀ g' H', Step g H [] g' H' [] → SOk K mg g' st' H' → W e st' g' H' σ
  | .stuck => False
/-- a fresh thing: it may be owned -/
def PostS (W : Wi) (g : G) (H : Hp) (σ : L2.St) (r : Res Slot) (Q : V → Hp → Prop) : Prop :=
  match r with
  | .ok a st' => ∀ v g' H' l, Step g H [] g' H' l → OsOk g' H' l → SlotOk K mg g' H' a (some v) l → SOk K mg g' st' H' → Q v H'
  | .er e st' => ∀ g' H', Step g H [] g' H' [] → SOk K mg g' st' H' → W e st' g' H' σ
  | .stuck => False
end
section
variable {α β γ δ : Type} {K : PySem.W.Frag} {mg : Str → Option Value} {R : G → α → β → Prop} {R2 : G → γ → δ → Prop} {W : Wi} {g g' : G} {H H' : Hp} {σ : L2.St}
theorem Post.step {r : Res α} {Q : β → Hp → Prop} (h : Post K mg R W g H σ r Q) (s : Step g H [] g' H' []) : Post K mg R W g' H' σ r Q := by
  cases r with
  | ok a st => exact fun v g2 H2 s2 r S => h v g2 H2 (s.trans s2) r S
  | er e st => exact fun g2 H2 s2 S => h g2 H2 (s.trans s2) S
  | stuck => exact h
theorem PostS.step {r : Res Slot} {Q : V → Hp → Prop} (h : PostS K mg W g H σ r Q) (s : Step g H [] g' H' []) : PostS K mg W g' H' σ r Q := by
  cases r with
  | ok a st => exact fun v g2 H2 l s2 o r S => h v g2 H2 l (s.trans s2) o r S
  | er e st => exact fun g2 H2 s2 S => h g2 H2 (s.trans s2) S
  | stuck => exact h
theorem Post.imp {r : Res α} {Q Q' : β → Hp → Prop} (h : Post K mg R W g H σ r Q) (hq : ∀ v H', Q v H' → Q' v H') : Post K mg R W g H σ r Q' := by
  cases r with
  | ok a st => exact fun v g2 H2 s2 r S => hq _ _ (h v g2 H2 s2 r S)
  | er e st => exact h
  | stuck => exact h
/-- what holds between two parts -/
def Mid (K : PySem.W.Frag) (mg : Str → Option Value) (R : G → α → β → Prop) (g : G) (H : Hp) (N : G → Hp → α → Store → Prop) (v : β) (H1 : Hp) : Prop :=
  ∃ g1 a st1, Step g H [] g1 H1 [] ∧ R g1 a v ∧ SOk K mg g1 st1 H1 ∧ N g1 H1 a st1
theorem Post.bind {r : Res α} {k : α → Store → Res γ} {Q : δ → Hp → Prop} (h : Post K mg R2 W g H σ (r.bind k) Q) :
    Post K mg R W g H σ r (Mid K mg R g H fun g1 H1 a st1 => Post K mg R2 W g1 H1 σ (k a st1) Q) := by
  cases r with
  | ok a st => exact fun v g2 H2 s2 r S => ⟨g2, a, st, s2, r, S, Post.step h s2⟩
  | er e st => exact h
  | stuck => exact h
theorem Post.bindS {r : Res α} {k : α → Store → Res Slot} {Q : V → Hp → Prop} (h : PostS K mg W g H σ (r.bind k) Q) :
    Post K mg R W g H σ r (Mid K mg R g H fun g1 H1 a st1 => PostS K mg W g1 H1 σ (k a st1) Q) := by
  cases r with
  | ok a st => exact fun v g2 H2 s2 r S => ⟨g2, a, st, s2, r, S, PostS.step h s2⟩
  | er e st => exact h
  | stuck => exact h
/-- no step -/
theorem Post.here {a : α} {v : β} {st : Store} {Q : β → Hp → Prop} (h : Post K mg R W g H σ (.ok a st) Q) (r : R g a v) (S : SOk K mg g st H) : Q v H := h v g H Step.refl r S
end

def RB : G → Bool → Bool → Prop := fun _ a b => a = b

section
variable (K : PySem.W.Frag) (mg : Str → Option Value) (W : Wi)
/-- a frame's state stands for an environment and a store -/
def At (P : G → En → Store → List Addr → Prop) (σ : L2.St) (H : Hp) : Prop :=
  ∃ g env st os, EnvOk K mg g H env σ os ∧ OsOk g H os ∧ SOk K mg g st H ∧ P g env st os
def tE (f : En → Store → Res D) : TE := fun σ H Q => At K mg (fun g env st _ => Post K mg (Rep K mg) W g H σ (f env st) Q) σ H
def tSl (f : En → Store → Res Slot) : TE := fun σ H Q => At K mg (fun g env st _ => PostS K mg W g H σ (f env st) Q) σ H
def tA (f : En → Store → Res (List D)) : TA := fun σ H Q => At K mg (fun g env st _ => Post K mg (RepL K mg) W g H σ (f env st) Q) σ H
def tT (f : En → Store → Res Bool) : TT := fun σ H Q => At K mg (fun g env st _ => Post K mg RB W g H σ (f env st) Q) σ H
end
abbrev EE (X : Cx) (W : Wi) (e : Expr) (f : En → Store → Res D) : Prop := PE X e (tE X.K X.mg W f)
abbrev SE (X : Cx) (W : Wi) (e : Expr) (f : En → Store → Res Slot) : Prop := PE X e (tSl X.K X.mg W f)
abbrev AE (X : Cx) (W : Wi) (es : List Expr) (f : En → Store → Res (List D)) : Prop := PA X es (tA X.K X.mg W f)
abbrev BE (X : Cx) (W : Wi) (e : Expr) (f : En → Store → Res Bool) : Prop := PT X e (tT X.K X.mg W f)
abbrev BW (X : Cx) (W : Wi) (e : Expr) (f : En → Store → Res Bool) : Prop := PW X e (tT X.K X.mg W f)

/-! ### operations by values -/
/-- f does as F, on two values -/
def Op2 (X : Cx) (f : Value → Value → Sem Value) (F : D → D → Store → Res D) : Prop :=
  ∀ (W : Wi) (pins : List (Addr × Obj)) (s : Shared) (σ : L2.St) (H : Hp) (g : G) (st : Store) (x y : D) (vx vy : V) (u w : Value) (Q : VK),
    Inv X pins σ H s → SOk X.K X.mg g st H → Rep X.K X.mg g x vx → Rep X.K X.mg g y vy → RelV vx u → RelV vy w → Post X.K X.mg (Rep X.K X.mg) W g H σ (F x y st) Q →
    wpAny (model X.prog X.w) X.A (f u w) (EP X pins σ Q) X.xe s
def Op2S (X : Cx) (f : Value → Value → Sem Value) (F : D → D → Store → Res Slot) : Prop :=
  ∀ (W : Wi) (pins : List (Addr × Obj)) (s : Shared) (σ : L2.St) (H : Hp) (g : G) (st : Store) (x y : D) (vx vy : V) (u w : Value) (Q : VK),
    Inv X pins σ H s → SOk X.K X.mg g st H → Rep X.K X.mg g x vx → Rep X.K X.mg g y vy → RelV vx u → RelV vy w → PostS X.K X.mg W g H σ (F x y st) Q →
    wpAny (model X.prog X.w) X.A (f u w) (EP X pins σ Q) X.xe s
def Op1 (X : Cx) (f : Value → Sem Value) (F : D → Store → Res D) : Prop :=
  ∀ (W : Wi) (pins : List (Addr × Obj)) (s : Shared) (σ : L2.St) (H : Hp) (g : G) (st : Store) (x : D) (vx : V) (u : Value) (Q : VK),
    Inv X pins σ H s → SOk X.K X.mg g st H → Rep X.K X.mg g x vx → RelV vx u → Post X.K X.mg (Rep X.K X.mg) W g H σ (F x st) Q →
    wpAny (model X.prog X.w) X.A (f u) (EP X pins σ Q) X.xe s
/-- a call of a value with values -/
def OpL (X : Cx) (f : Value) (F : List D → Store → Res D) : Prop :=
  ∀ (W : Wi) (pins : List (Addr × Obj)) (s : Shared) (σ : L2.St) (H : Hp) (g : G) (st : Store) (xs : List D) (vs : List V) (us : List Value) (Q : VK),
    Inv X pins σ H s → SOk X.K X.mg g st H → RepL X.K X.mg g xs vs → Vals vs us → Post X.K X.mg (Rep X.K X.mg) W g H σ (F xs st) Q →
    wpAny (model X.prog X.w) X.A (call f us) (EP X pins σ Q) X.xe s
def OpLS (X : Cx) (f : Value) (F : List D → Store → Res Slot) : Prop :=
  ∀ (W : Wi) (pins : List (Addr × Obj)) (s : Shared) (σ : L2.St) (H : Hp) (g : G) (st : Store) (xs : List D) (vs : List V) (us : List Value) (Q : VK),
    Inv X pins σ H s → SOk X.K X.mg g st H → RepL X.K X.mg g xs vs → Vals vs us → PostS X.K X.mg W g H σ (F xs st) Q →
    wpAny (model X.prog X.w) X.A (call f us) (EP X pins σ Q) X.xe s
/-- from a rule of the hand layer -/
theorem Op2.of {X : Cx} {f : Value → Value → Sem Value} {r : R2} {F : D → D → Store → Res D} (ho : OpR X f r)
    (h : ∀ (W : Wi) (σ : L2.St) (H : Hp) (g : G) (st : Store) (x y : D) (vx vy : V) (Q : VK), SOk X.K X.mg g st H → Rep X.K X.mg g x vx → Rep X.K X.mg g y vy → Post X.K X.mg (Rep X.K X.mg) W g H σ (F x y st) Q → r vx vy H Q) : Op2 X f F :=
  fun W pins s σ H g st x y vx vy u w Q I S rx ry ru rw q => ho pins s σ H vx vy u w Q I ru rw (h W σ H g st x y vx vy Q S rx ry q)
theorem OpL.of {X : Cx} {f : Value} {r : List V → Hp → VK → Prop} {F : List D → Store → Res D} (ho : CallR X f r)
    (h : ∀ (W : Wi) (σ : L2.St) (H : Hp) (g : G) (st : Store) (xs : List D) (vs : List V) (Q : VK), SOk X.K X.mg g st H → RepL X.K X.mg g xs vs → Post X.K X.mg (Rep X.K X.mg) W g H σ (F xs st) Q → r vs H Q) : OpL X f F :=
  fun W pins s σ H g st xs vs us Q I S r ru q => ho pins s σ H vs us Q I ru (h W σ H g st xs vs Q S r q)

section
variable {X : Cx} {W : Wi} {a b e : Expr} {es : List Expr} {fa fb : En → Store → Res D} {pos : Pos}

/-! ### names and constants -/
def vName (i : Nat) : En → Store → Res D := fun env st => match env[i]? with
  | some (.vl d) => .ok d st
  | _ => .stuck
theorem EnvOk.get {K : PySem.W.Frag} {mg : Str → Option Value} {g : G} {H : Hp} : ∀ {env : En} {σ : L2.St} {os : List Addr} {i : Nat} {s : Slot}, EnvOk K mg g H env σ os → env[i]? = some s → ∃ o l, σ[i]? = some o ∧ SlotOk K mg g H s o l ∧ (∀ x ∈ l, x ∈ os)
  | _, _, _, _, _, .nil, e => by simp at e
  | _, _, _, 0, _, .cons h t, e => by
    simp at e; subst e
    exact ⟨_, _, rfl, h, fun x hx => List.mem_append_left _ hx⟩
  | _, _, _, i + 1, s, .cons h t, e => by
    obtain ⟨o, l, h1, h2, h3⟩ := EnvOk.get (i := i) (s := s) t (by simpa using e)
    exact ⟨o, l, by simpa using h1, h2, fun x hx => List.mem_append_right _ (h3 x hx)⟩
theorem e_name (i : Nat) {x : Str} (hN : X.N[i]? = some x) (hv : Vis X.env.scope x) (hd : (x == ("__debug__" : Str)) = false := by decide) (hcd : (x == ("__classdict__" : Str)) = false := by decide) : EE X W (.Name x pos) (vName i) := by
  refine ⟨fun pins s σ H Q I h => ?_⟩
  obtain ⟨g, env, st, os, he, ho, hs, h⟩ := h
  refine (pe_var hN hv hd hcd).run pins s σ H Q I ?_
  unfold vName at h
  split at h
  · next d hd =>
    obtain ⟨o, l, h1, h2, _⟩ := he.get hd
    cases h2 with
    | vl r => exact ⟨_, h1, h.here r hs⟩
  · exact h.elim
def vC (d : D) : En → Store → Res D := fun _ st => .ok d st
theorem e_c {d : D} {v : V} (h : PE X e (L2.tC v)) (r : ∀ g, Rep X.K X.mg g d v) : EE X W e (vC d) := by
  refine ⟨fun pins s σ H Q I h' => ?_⟩
  obtain ⟨g, env, st, os, he, ho, hs, h'⟩ := h'
  exact h.run pins s σ H Q I (h'.here (r g) hs)
theorem e_int {i : Int} {j : Nat} : EE X W (.Constant (.int i) j pos) (vC (.int i)) := e_c pe_int fun _ => .int i
theorem e_bl {c : Bool} {j : Nat} : EE X W (.Constant (.bool c) j pos) (vC (.bl c)) := e_c pe_bl fun _ => .bl c
theorem e_non {j : Nat} : EE X W (.Constant .none j pos) (vC .non) := e_c pe_non fun _ => .non
theorem e_str {x : Str} {j : Nat} : EE X W (.Constant (.str x) j pos) (vC (.str x)) := e_c pe_str fun _ => .str x
/-- a module's constant -/
theorem e_glob {x : Str} {d : D} {v : V} {u : Value} (hg : Gl X x) (hm : X.mg x = some u) (r : RelV v u) (q : ∀ g, Rep X.K X.mg g d v) (hd : (x == ("__debug__" : Str)) = false := by decide) : EE X W (.Name x pos) (vC d) := e_c (pe_glob hg hm r hd) q
theorem e_bltn {x : Str} {d : D} {v : V} {u : Value} (hg : Gl X x) (hm : X.mg x = none) (hv : bootBuiltins x = some u) (r : RelV v u) (q : ∀ g, Rep X.K X.mg g d v) (hn : x ≠ "__name__" := by decide) (hd : (x == ("__debug__" : Str)) = false := by decide) : EE X W (.Name x pos) (vC d) := e_c (pe_bltn hg hm hv r hn hd) q

/-! ### two parts in a row -/
def v2 {α : Type} (F : D → D → Store → Res α) (fa fb : En → Store → Res D) : En → Store → Res α := fun env st => (fa env st).bind fun x st => (fb env st).bind fun y st => F x y st
theorem two {F : D → D → Store → Res D} (ha : EE X W a fa) (hb : EE X W b fb) {pins : List (Addr × Obj)} {s : Shared} {σ : L2.St} {H : Hp} {Q : VK} (I : Inv X pins σ H s) (h : tE X.K X.mg W (v2 F fa fb) σ H Q)
    {α : Type} {Q' : α → Shared → Prop} {f : Value → Value → Sem α}
    (hf : ∀ g st x y v u s2 vx vy H2, Inv X pins σ H2 s2 → SOk X.K X.mg g st H2 → Rep X.K X.mg g x vx → Rep X.K X.mg g y vy → RelV vx v → RelV vy u → Post X.K X.mg (Rep X.K X.mg) W g H2 σ (F x y st) Q → wpAny (model X.prog X.w) X.A (f v u) Q' X.xe s2) :
    wpAny (model X.prog X.w) X.A (eval a X.env) (fun v s₁ => wpAny (model X.prog X.w) X.A (eval b X.env) (fun u s₂ => wpAny (model X.prog X.w) X.A (f v u) Q' X.xe s₂) X.xe s₁) X.xe s := by
  obtain ⟨g, env, st, os, he, ho, hs, h⟩ := h
  refine thn (ha.run pins s σ H _ I ⟨g, env, st, os, he, ho, hs, Post.bind h⟩) fun v s1 ⟨vx, H1, I1, r1, q1⟩ => ?_
  obtain ⟨g1, x, st1, s1', rx, S1, h1⟩ := q1
  refine thn (hb.run pins s1 σ H1 _ I1 ⟨g1, env, st1, os, he.step' ho s1', ho.step s1', S1, Post.bind h1⟩) fun u s2 ⟨vy, H2, I2, r2, q2⟩ => ?_
  obtain ⟨g2, y, st2, s2', ry, S2, h2⟩ := q2
  exact hf g2 st2 x y v u s2 vx vy H2 I2 S2 (rx.ext s2'.ext) ry r1 r2 h2
theorem twoS {F : D → D → Store → Res Slot} (ha : EE X W a fa) (hb : EE X W b fb) {pins : List (Addr × Obj)} {s : Shared} {σ : L2.St} {H : Hp} {Q : VK} (I : Inv X pins σ H s) (h : tSl X.K X.mg W (v2 F fa fb) σ H Q)
    {α : Type} {Q' : α → Shared → Prop} {f : Value → Value → Sem α}
    (hf : ∀ g st x y v u s2 vx vy H2, Inv X pins σ H2 s2 → SOk X.K X.mg g st H2 → Rep X.K X.mg g x vx → Rep X.K X.mg g y vy → RelV vx v → RelV vy u → PostS X.K X.mg W g H2 σ (F x y st) Q → wpAny (model X.prog X.w) X.A (f v u) Q' X.xe s2) :
    wpAny (model X.prog X.w) X.A (eval a X.env) (fun v s₁ => wpAny (model X.prog X.w) X.A (eval b X.env) (fun u s₂ => wpAny (model X.prog X.w) X.A (f v u) Q' X.xe s₂) X.xe s₁) X.xe s := by
  obtain ⟨g, env, st, os, he, ho, hs, h⟩ := h
  refine thn (ha.run pins s σ H _ I ⟨g, env, st, os, he, ho, hs, Post.bindS h⟩) fun v s1 ⟨vx, H1, I1, r1, q1⟩ => ?_
  obtain ⟨g1, x, st1, s1', rx, S1, h1⟩ := q1
  refine thn (hb.run pins s1 σ H1 _ I1 ⟨g1, env, st1, os, he.step' ho s1', ho.step s1', S1, Post.bindS h1⟩) fun u s2 ⟨vy, H2, I2, r2, q2⟩ => ?_
  obtain ⟨g2, y, st2, s2', ry, S2, h2⟩ := q2
  exact hf g2 st2 x y v u s2 vx vy H2 I2 S2 (rx.ext s2'.ext) ry r1 r2 h2
theorem e_bin {op : Operator} {F : D → D → Store → Res D} (hop : Op2 X (binaryOp op) F) (ha : EE X W a fa) (hb : EE X W b fb) : EE X W (.BinOp a op b pos) (v2 F fa fb) :=
  ⟨fun pins s σ H Q I h => wpAny_BinOp (two ha hb I h fun g st x y v u s2 vx vy H2 I2 S2 rx ry r1 r2 q => hop W pins s2 σ H2 g st x y vx vy v u Q I2 S2 rx ry r1 r2 q)⟩
theorem s_bin {op : Operator} {F : D → D → Store → Res Slot} (hop : Op2S X (binaryOp op) F) (ha : EE X W a fa) (hb : EE X W b fb) : SE X W (.BinOp a op b pos) (v2 F fa fb) :=
  ⟨fun pins s σ H Q I h => wpAny_BinOp (twoS ha hb I h fun g st x y v u s2 vx vy H2 I2 S2 rx ry r1 r2 q => hop W pins s2 σ H2 g st x y vx vy v u Q I2 S2 rx ry r1 r2 q)⟩
/-- a comparison as a value -/
theorem e_cmp {op : CmpOp} {F : D → D → Store → Res D} (hop : Op2 X (compareOp op) F) (ha : EE X W a fa) (hb : EE X W b fb) (hm : behindInMarks op b = false) : EE X W (.Compare a [op] [b] pos) (v2 F fa fb) :=
  ⟨fun pins s σ H Q I h => wpAny_Compare1 (two ha hb I h fun g st x y v u s2 vx vy H2 I2 S2 rx ry r1 r2 q => hop W pins s2 σ H2 g st x y vx vy v u Q I2 S2 rx ry r1 r2 q) hm⟩
/-- a value that is a truth -/
def toB (r : Res D) : Res Bool := r.bind fun d st => match d with
  | .bl c => .ok c st
  | _ => .stuck
def vB (f : En → Store → Res D) : En → Store → Res Bool := fun env st => toB (f env st)
theorem Post.toB {K : PySem.W.Frag} {mg : Str → Option Value} {g : G} {H : Hp} {σ : L2.St} {r : Res D} {Q : Bool → Hp → Prop} (h : Post K mg RB W g H σ (toB r) Q) :
    Post K mg (Rep K mg) W g H σ r (fun v H' => ∃ c, v = .bl c ∧ Q c H') := by
  cases r with
  | ok d st =>
    cases d with
    | bl c => exact fun v g2 H2 s2 r S => by cases r; exact ⟨c, rfl, h c g2 H2 s2 rfl S⟩
    | _ => exact h.elim
  | er e st => exact h
  | stuck => exact h
theorem t_cmp {op : CmpOp} {F : D → D → Store → Res D} (hop : Op2 X (compareOp op) F) (ha : EE X W a fa) (hb : EE X W b fb) (hm : behindInMarks op b = false) : BE X W (.Compare a [op] [b] pos) (vB (v2 F fa fb)) := by
  refine ⟨fun pins s σ H Q I h => ?_⟩
  obtain ⟨g, env, st, os, he, ho, hs, h⟩ := h
  refine wpAny_isTrue_Compare1 (thn (two ha hb I (Q := fun v H' => ∃ c, v = .bl c ∧ Q c H') ⟨g, env, st, os, he, ho, hs, Post.toB h⟩ fun g st x y v u s2 vx vy H2 I2 S2 rx ry r1 r2 q => hop W pins s2 σ H2 g st x y vx vy v u _ I2 S2 rx ry r1 r2 q) fun v s1 h1 => thn h1 fun u s2 h2 => thn h2 fun c s3 ⟨x, H1, I1, r1, q1⟩ => ?_) hm
  obtain ⟨d, rfl, q⟩ := q1
  cases r1
  exact wpAny_truthy_bool ⟨H1, I1, q⟩
/-- an expression whose value is a bool, as a test -/
theorem t_val (h : EE X W e fa) (he : ∀ whole, isTrue e X.env whole = (do let v ← whole; standAt e.pos; holding [v] (truthy v)) := by intro _; rfl) : BE X W e (vB fa) := by
  refine ⟨fun pins s σ H Q I hw => ?_⟩
  obtain ⟨g, env, st, os, he', ho, hs, hw⟩ := hw
  exact (pt_val h he).run pins s σ H Q I ⟨g, env, st, os, he', ho, hs, Post.toB hw⟩
/-! ### and, or, not -/
variable {tf tg : En → Store → Res Bool} {rest : List Expr}
def vAnd (f g : En → Store → Res Bool) : En → Store → Res Bool := fun env st => (f env st).bind fun c st => if c = true then g env st else .ok false st
def vOr (f g : En → Store → Res Bool) : En → Store → Res Bool := fun env st => (f env st).bind fun c st => if c = true then .ok true st else g env st
def vNot (f : En → Store → Res Bool) : En → Store → Res Bool := fun env st => (f env st).bind fun c st => .ok (!c) st
theorem bw_and1 (ha : BE X W a tf) : BW X W (.BoolOp .And [a] pos) tf := pw_and1 ha
theorem bw_or1 (ha : BE X W a tf) : BW X W (.BoolOp .Or [a] pos) tf := pw_or1 ha
theorem bw_and (ha : BE X W a tf) (hb : BW X W (.BoolOp .And (b :: rest) pos) tg) : BW X W (.BoolOp .And (a :: b :: rest) pos) (vAnd tf tg) := by
  refine ⟨fun wh pins s σ H Q I h => ?_⟩
  obtain ⟨g, env, st, os, he, ho, hs, h⟩ := h
  refine (pw_and ha hb).run wh pins s σ H Q I ⟨g, env, st, os, he, ho, hs, (Post.bind h).imp fun c H1 q => ?_⟩
  obtain ⟨g1, c', st1, s1, e, S1, h1⟩ := q
  cases e
  cases c with
  | true => exact iteT ⟨g1, env, st1, os, he.step' ho s1, ho.step s1, S1, h1⟩
  | false => exact iteF (h1.here rfl S1)
theorem bw_or (ha : BE X W a tf) (hb : BW X W (.BoolOp .Or (b :: rest) pos) tg) : BW X W (.BoolOp .Or (a :: b :: rest) pos) (vOr tf tg) := by
  refine ⟨fun wh pins s σ H Q I h => ?_⟩
  obtain ⟨g, env, st, os, he, ho, hs, h⟩ := h
  refine (pw_or ha hb).run wh pins s σ H Q I ⟨g, env, st, os, he, ho, hs, (Post.bind h).imp fun c H1 q => ?_⟩
  obtain ⟨g1, c', st1, s1, e, S1, h1⟩ := q
  cases e
  cases c with
  | false => exact iteF ⟨g1, env, st1, os, he.step' ho s1, ho.step s1, S1, h1⟩
  | true => exact iteT (h1.here rfl S1)
theorem b_not (ha : BE X W a tf) : BE X W (.UnaryOp .Not a pos) (vNot tf) := by
  refine ⟨fun pins s σ H Q I h => ?_⟩
  obtain ⟨g, env, st, os, he, ho, hs, h⟩ := h
  refine (pt_not ha).run pins s σ H Q I ⟨g, env, st, os, he, ho, hs, (Post.bind h).imp fun c H1 q => ?_⟩
  obtain ⟨g1, c', st1, s1, e, S1, h1⟩ := q
  cases e
  exact h1.here rfl S1
/-- as values -/
def vAndV (f g : En → Store → Res D) : En → Store → Res D := fun env st => (f env st).bind fun c st => match c with
  | .bl true => g env st
  | .bl false => .ok (.bl false) st
  | _ => .stuck
def vOrV (f g : En → Store → Res D) : En → Store → Res D := fun env st => (f env st).bind fun c st => match c with
  | .bl true => .ok (.bl true) st
  | .bl false => g env st
  | _ => .stuck
def vNotV (f : En → Store → Res D) : En → Store → Res D := fun env st => (f env st).bind fun c st => match c with
  | .bl c => .ok (.bl (!c)) st
  | _ => .stuck
theorem e_one {op : BoolOp} (h : EE X W a fa) : EE X W (.BoolOp op [a] pos) fa := pe_one h
theorem e_and (ha : EE X W a fa) (hb : EE X W (.BoolOp .And (b :: rest) pos) fb) : EE X W (.BoolOp .And (a :: b :: rest) pos) (vAndV fa fb) := by
  refine ⟨fun pins s σ H Q I h => ?_⟩
  obtain ⟨g, env, st, os, he, ho, hs, h⟩ := h
  refine (pe_and ha hb).run pins s σ H Q I ⟨g, env, st, os, he, ho, hs, (Post.bind h).imp fun c H1 q => ?_⟩
  obtain ⟨g1, c', st1, s1, r, S1, h1⟩ := q
  cases r with
  | bl c =>
    refine ⟨c, rfl, ?_⟩
    cases c with
    | true => exact iteT ⟨g1, env, st1, os, he.step' ho s1, ho.step s1, S1, h1⟩
    | false => exact iteF (h1.here (.bl _) S1)
  | _ => exact h1.elim
theorem e_or (ha : EE X W a fa) (hb : EE X W (.BoolOp .Or (b :: rest) pos) fb) : EE X W (.BoolOp .Or (a :: b :: rest) pos) (vOrV fa fb) := by
  refine ⟨fun pins s σ H Q I h => ?_⟩
  obtain ⟨g, env, st, os, he, ho, hs, h⟩ := h
  refine (pe_or ha hb).run pins s σ H Q I ⟨g, env, st, os, he, ho, hs, (Post.bind h).imp fun c H1 q => ?_⟩
  obtain ⟨g1, c', st1, s1, r, S1, h1⟩ := q
  cases r with
  | bl c =>
    refine ⟨c, rfl, ?_⟩
    cases c with
    | false => exact iteF ⟨g1, env, st1, os, he.step' ho s1, ho.step s1, S1, h1⟩
    | true => exact iteT (h1.here (.bl _) S1)
  | _ => exact h1.elim
theorem e_not (ha : EE X W a fa) : EE X W (.UnaryOp .Not a pos) (vNotV fa) := by
  refine ⟨fun pins s σ H Q I h => ?_⟩
  obtain ⟨g, env, st, os, he, ho, hs, h⟩ := h
  refine (pe_not ha).run pins s σ H Q I ⟨g, env, st, os, he, ho, hs, (Post.bind h).imp fun c H1 q => ?_⟩
  obtain ⟨g1, c', st1, s1, r, S1, h1⟩ := q
  cases r with
  | bl c => exact ⟨c, rfl, h1.here (.bl _) S1⟩
  | _ => exact h1.elim
/-- a if t else b -/
def vIf {α : Type} (t : En → Store → Res Bool) (f g : En → Store → Res α) : En → Store → Res α := fun env st => (t env st).bind fun c st => if c = true then f env st else g env st
theorem e_ifExp {c : Expr} (hc : BE X W c tf) (ha : EE X W a fa) (hb : EE X W b fb) : EE X W (.IfExp c a b pos) (vIf tf fa fb) := by
  refine ⟨fun pins s σ H Q I h => ?_⟩
  obtain ⟨g, env, st, os, he, ho, hs, h⟩ := h
  refine (pe_ifExp hc ha hb).run pins s σ H Q I ⟨g, env, st, os, he, ho, hs, (Post.bind h).imp fun c H1 q => ?_⟩
  obtain ⟨g1, c', st1, s1, e, S1, h1⟩ := q
  cases e
  cases c with
  | true => exact iteT ⟨g1, env, st1, os, he.step' ho s1, ho.step s1, S1, h1⟩
  | false => exact iteF ⟨g1, env, st1, os, he.step' ho s1, ho.step s1, S1, h1⟩
/-- a one-place operator -/
def v1 {α : Type} (F : D → Store → Res α) (f : En → Store → Res D) : En → Store → Res α := fun env st => (f env st).bind F
theorem e_un {op : UnaryOp} {F : D → Store → Res D} (hop : Op1 X (unaryOp op) F) (ha : EE X W a fa) : EE X W (.UnaryOp op a pos) (v1 F fa) := by
  refine ⟨fun pins s σ H Q I h => ?_⟩
  obtain ⟨g, env, st, os, he, ho, hs, h⟩ := h
  refine UnaryOp_ (thn (ha.run pins s σ H _ I ⟨g, env, st, os, he, ho, hs, Post.bind h⟩) fun v s1 ⟨vx, H1, I1, r1, q1⟩ => ?_)
  obtain ⟨g1, x, st1, s1', rx, S1, h1⟩ := q1
  exact hop W pins s1 σ H1 g1 st1 x vx v Q I1 S1 rx r1 h1

/-! ### argument lists, displays -/
def vNil : En → Store → Res (List D) := fun _ st => .ok [] st
def vCons (f : En → Store → Res D) (r : En → Store → Res (List D)) : En → Store → Res (List D) := fun env st => (f env st).bind fun x st => (r env st).bind fun xs st => .ok (x :: xs) st
theorem a_nil : AE X W [] vNil := by
  refine ⟨fun pos pins s σ H Q I h => ?_⟩
  obtain ⟨g, env, st, os, he, ho, hs, h⟩ := h
  exact pa_nil.run pos pins s σ H Q I (h.here .nil hs)
theorem a_cons {fr : En → Store → Res (List D)} (ha : EE X W e fa) (hr : AE X W es fr) (hs : starEach (e :: es) X.env = (false, eval e X.env) :: starEach es X.env := by rfl) : AE X W (e :: es) (vCons fa fr) := by
  refine ⟨fun pos pins s σ H Q I h => ?_⟩
  obtain ⟨g, env, st, os, he, ho, hS, h⟩ := h
  refine (pa_cons ha hr hs).run pos pins s σ H Q I ⟨g, env, st, os, he, ho, hS, (Post.bind h).imp fun v H1 q => ?_⟩
  obtain ⟨g1, x, st1, s1, rx, S1, h1⟩ := q
  refine ⟨g1, env, st1, os, he.step' ho s1, ho.step s1, S1, (Post.bind h1).imp fun vs H2 q2 => ?_⟩
  obtain ⟨g2, xs, st2, s2, rxs, S2, h2⟩ := q2
  exact h2.here (.cons (rx.ext s2.ext) rxs) S2
/-- a tuple -/
def mkTup : List D → Store → Res D := fun xs st => if xs.length ≤ sizeLine then .ok (.tup xs) st else .stuck
def mkLst : List D → Store → Res Slot := fun xs st => if xs.length ≤ sizeLine then .ok (.ol xs) st else .stuck
def vA {α : Type} (F : List D → Store → Res α) (f : En → Store → Res (List D)) : En → Store → Res α := fun env st => (f env st).bind F
/-- behind a new tuple -/
theorem Post.newTup {K : PySem.W.Frag} {mg : Str → Option Value} {g : G} {H : Hp} {σ : L2.St} {st : Store} {ds : List D} {vs : List V} {Q : VK} (h : Post K mg (Rep K mg) W g H σ (.ok (.tup ds) st) Q) (S : SOk K mg g st H) (r : RepL K mg g ds vs) {p : Addr} (hp : H p = none) :
    Q (.ref p) (upd H p (.tup vs)) := by
  obtain ⟨S', s'⟩ := S.newF (o := .tup vs) hp
  exact h _ _ _ s' (rep_tupF (S.kpn hp) r) S'
theorem Post.newLst {K : PySem.W.Frag} {mg : Str → Option Value} {g : G} {H : Hp} {σ : L2.St} {st : Store} {ds : List D} {vs : List V} {Q : VK} (h : Post K mg (Rep K mg) W g H σ (.ok (.lst ds) st) Q) (S : SOk K mg g st H) (r : RepL K mg g ds vs) {p : Addr} (hp : H p = none) :
    Q (.ref p) (upd H p (.lst vs)) := by
  obtain ⟨S', s'⟩ := S.newF (o := .lst vs) hp
  exact h _ _ _ s' (rep_lstF (S.kpn hp) r) S'
/-- behind a new thing of one's own -/
theorem SOk.newO {K : PySem.W.Frag} {mg : Str → Option Value} {g : G} {H : Hp} {st : Store} (S : SOk K mg g st H) {p : Addr} {o : HO} (hp : H p = none) :
    SOk K mg g st (upd H p o) ∧ Step g H [] g (upd H p o) [p] ∧ OsOk g (upd H p o) [p] := by
  have hk := S.kpn hp
  have hf := S.fpn hp
  refine ⟨⟨fun a u h => ?_, S.nd, S.fr, fun a ha => ?_, ?_⟩, ⟨Ext.refl g, fun a h _ _ => ?_, fun a h => ?_, fun a h => .inl h, fun a h => .inl h, fun a h => ?_⟩, ⟨?_, fun a h => ?_, fun a h => ?_, fun a h => ?_⟩⟩
  · rw [upd_ne (by rintro rfl; rw [hk] at h; cases h)]
    exact S.kp a u h
  · rw [upd_ne (by rintro rfl; exact hf ha)]
    exact S.th a ha
  · exact S.ob.step (Ext.refl g) fun a ha => upd_ne (by rintro rfl; exact hf ha)
  · exact upd_ne (by rintro rfl; exact h hp)
  · rw [upd_ne (by rintro rfl; exact h hp)]
    exact h
  · have e : a = p := by simpa using h
    subst e
    exact .inr hp
  · simp
  · have e : a = p := by simpa using h
    subst e
    rw [upd_same]; simp
  · have e : a = p := by simpa using h
    subst e
    exact hk
  · have e : a = p := by simpa using h
    subst e
    exact hf
theorem PostS.newLst {K : PySem.W.Frag} {mg : Str → Option Value} {g : G} {H : Hp} {σ : L2.St} {st : Store} {ds : List D} {vs : List V} {Q : VK} (h : PostS K mg W g H σ (.ok (.ol ds) st) Q) (S : SOk K mg g st H) (r : RepL K mg g ds vs) {p : Addr} (hp : H p = none) :
    Q (.ref p) (upd H p (.lst vs)) := by
  obtain ⟨S', s', o'⟩ := S.newO (o := .lst vs) hp
  exact h _ _ _ _ s' o' (.ol upd_same r) S'
theorem e_tup {k : Nat} {f : En → Store → Res (List D)} (h : AE X W es f) : EE X W (.Tuple es k pos) (vA mkTup f) := by
  refine ⟨fun pins s σ H Q I hq => ?_⟩
  obtain ⟨g, env, st, os, he, ho, hs, hq⟩ := hq
  refine (pe_tup h).run pins s σ H Q I ⟨g, env, st, os, he, ho, hs, (Post.bind hq).imp fun vs H1 q => ?_⟩
  obtain ⟨g1, xs, st1, s1, r, S1, h1⟩ := q
  unfold mkTup at h1
  split at h1
  · next hz => exact ⟨by rw [← r.length]; exact hz, fun p hp => h1.newTup S1 r hp⟩
  · exact h1.elim
theorem s_lst {f : En → Store → Res (List D)} (h : AE X W es f) : SE X W (.List es pos) (vA mkLst f) := by
  refine ⟨fun pins s σ H Q I hq => ?_⟩
  obtain ⟨g, env, st, os, he, ho, hs, hq⟩ := hq
  refine (pe_lst h).run pins s σ H Q I ⟨g, env, st, os, he, ho, hs, (Post.bindS hq).imp fun vs H1 q => ?_⟩
  obtain ⟨g1, xs, st1, s1, r, S1, h1⟩ := q
  unfold mkLst at h1
  split at h1
  · next hz => exact ⟨by rw [← r.length]; exact hz, fun p hp => h1.newLst S1 r hp⟩
  · exact h1.elim

/-! ### a fresh thing is frozen, or becomes an object of the store -/
def frz : Slot → Store → Res D := fun s st => match s with
  | .vl d => .ok d st
  | .ol ds => .ok (.lst ds) st
  | _ => .stuck
def vFrz (f : En → Store → Res Slot) : En → Store → Res D := fun env st => (f env st).bind frz
/-- one of one's own is frozen -/
theorem SOk.freeze {K : PySem.W.Frag} {mg : Str → Option Value} {g : G} {H : Hp} {st : Store} (S : SOk K mg g st H) {p : Addr} {o : HO} (hp : H p = some o) (hk : g.kp p = none) (hf : p ∉ g.fp) : SOk K mg (g.freeze p o) st H := by
  refine ⟨fun a u h => ?_, S.nd, fun a ha => ?_, S.th, S.ob.step (ext_freeze hk) fun a ha => rfl⟩
  · by_cases e : a = p
    · subst e
      have h' : upd g.kp a o a = some u := h
      rw [upd_same] at h'
      exact hp.trans h'
    · have h' : upd g.kp p o a = some u := h
      rw [upd_ne e] at h'
      exact S.kp a u h'
  · show upd g.kp p o a = none
    rw [upd_ne (by rintro rfl; exact hf ha)]
    exact S.fr a ha
theorem Step.freeze {g : G} {H : Hp} {p : Addr} {o : HO} (hk : g.kp p = none) : Step g H [p] (g.freeze p o) H [] :=
  ⟨ext_freeze hk, fun _ _ _ _ => rfl, fun _ h => h, fun _ h => .inl h, fun a h => by
    by_cases e : a = p
    · subst e; exact .inr (.inr (.inl (by simp)))
    · have h' : upd g.kp p o a ≠ none := h
      rw [upd_ne e] at h'
      exact .inl h', fun _ h => nomatch h⟩
theorem PostS.frz {K : PySem.W.Frag} {mg : Str → Option Value} {g : G} {H : Hp} {σ : L2.St} {r : Res Slot} {Q : VK} (h : Post K mg (Rep K mg) W g H σ (r.bind frz) Q) : PostS K mg W g H σ r Q := by
  cases r with
  | ok a st =>
    intro v g' H' l s o so S
    cases so with
    | un => exact (h : False).elim
    | vl r => exact h v g' H' s r S
    | @ol ds a vs ha r =>
      have hk := o.kp a List.mem_cons_self
      have hf := o.fp a List.mem_cons_self
      exact h _ _ _ (s.trans (Step.freeze hk)) (rep_lstF hk r) (S.freeze ha hk hf)
    | od _ _ _ _ => exact (h : False).elim
  | er e st => exact h
  | stuck => exact h
theorem e_frz {f : En → Store → Res Slot} (h : SE X W e f) : EE X W e (vFrz f) := by
  refine ⟨fun pins s σ H Q I hq => ?_⟩
  obtain ⟨g, env, st, os, he, ho, hs, hq⟩ := hq
  exact h.run pins s σ H Q I ⟨g, env, st, os, he, ho, hs, PostS.frz hq⟩
/-- .. or a value is a slot's -/
def vSl (f : En → Store → Res D) : En → Store → Res Slot := fun env st => (f env st).bind fun d st => .ok (.vl d) st
def toRef : Slot → Store → Res D := fun s st => match s with
  | .ol ds => .ok (.ref st.length) (st ++ [.cell (.ol ds)])
  | .od t kvs => .ok (.ref st.length) (st ++ [.cell (.od t kvs)])
  | _ => .stuck
def vRef (f : En → Store → Res Slot) : En → Store → Res D := fun env st => (f env st).bind toRef
def G.obj (g : G) (p : Addr) : G := ⟨g.kp, g.m ++ [(p, [p])]⟩
theorem G.obj_fp (g : G) (p : Addr) : (g.obj p).fp = g.fp ++ [p] := by simp [G.obj, G.fp, fpOf]
theorem G.obj_rs (g : G) (p : Addr) : (g.obj p).rs = g.rs ++ [p] := by simp [G.obj, G.rs]
theorem ext_obj {g : G} {p : Addr} : Ext g (g.obj p) := ⟨fun _ _ h => h, fun n a h => by
  rw [G.obj_rs, List.getElem?_append_left (List.getElem?_eq_some_iff.mp h).1]
  exact h⟩
theorem StOk.snoc {K : PySem.W.Frag} {mg : Str → Option Value} {g : G} {H : Hp} {o : SObj} {p : Addr × List Addr} : ∀ {st : Store} {m : List (Addr × List Addr)}, StOk K mg g H st m → ObOk K mg g H o p → StOk K mg g H (st ++ [o]) (m ++ [p])
  | _, _, .nil, h => .cons h .nil
  | _, _, .cons q t, h => .cons q (StOk.snoc t h)
/-- a thing of one's own becomes an object of the store -/
theorem SOk.toObj {K : PySem.W.Frag} {mg : Str → Option Value} {g' : G} {H' : Hp} {st : Store} {a : Addr} {u : Slot} {ho : HO} (S : SOk K mg g' st H') (hk : g'.kp a = none) (hf : a ∉ g'.fp) (ha : H' a = some ho) (so : ∀ g, Ext g' g → SlotOk K mg g H' u (some (.ref a)) [a]) :
    Step g' H' [a] (g'.obj a) H' [] ∧ Rep K mg (g'.obj a) (.ref st.length) (.ref a) ∧ SOk K mg (g'.obj a) (st ++ [.cell u]) H' := by
  have ln : st.length = g'.m.length := S.ob.length
  have e' : Ext g' (g'.obj a) := ext_obj
  refine ⟨⟨ext_obj, fun _ _ _ _ => rfl, fun _ h => h, fun x h => ?_, fun x h => .inl h, fun _ h => nomatch h⟩, .ref ?_, ⟨S.kp, ?_, fun x h => ?_, fun x h => ?_, ?_⟩⟩
  · rw [G.obj_fp] at h
    rcases List.mem_append.mp h with h | h
    · exact .inl h
    · exact .inr (.inr h)
  · rw [G.obj_rs, ln]
    have : g'.m.length = g'.rs.length := by simp [G.rs]
    rw [this, List.getElem?_append_right (Nat.le_refl _)]
    simp
  · rw [G.obj_fp, List.nodup_append]
    refine ⟨S.nd, by simp, fun x hx y hy e => ?_⟩
    have : y = a := by simpa using hy
    subst this
    subst e
    exact hf hx
  · rw [G.obj_fp] at h
    rcases List.mem_append.mp h with h | h
    · exact S.fr x h
    · have : x = a := by simpa using h
      subst this
      exact hk
  · rw [G.obj_fp] at h
    rcases List.mem_append.mp h with h | h
    · exact S.th x h
    · have : x = a := by simpa using h
      subst this
      rw [ha]; simp
  · exact (S.ob.step e' fun _ _ => rfl).snoc (.cell (so _ e'))
theorem PostS.toRef {K : PySem.W.Frag} {mg : Str → Option Value} {g : G} {H : Hp} {σ : L2.St} {r : Res Slot} {Q : VK} (h : Post K mg (Rep K mg) W g H σ (r.bind toRef) Q) : PostS K mg W g H σ r Q := by
  cases r with
  | ok a st =>
    intro v g' H' l s o so S
    cases so with
    | @ol ds a vs ha r =>
      obtain ⟨s', r', S'⟩ := S.toObj (o.kp a List.mem_cons_self) (o.fp a List.mem_cons_self) ha fun g e => .ol ha (r.ext e)
      exact h (.ref a) (g'.obj a) H' (s.trans s') r' S'
    | @od t kvs a ho ha r q nd =>
      obtain ⟨s', r', S'⟩ := S.toObj (o.kp a List.mem_cons_self) (o.fp a List.mem_cons_self) ha fun g e => .od ha (r.ext e) q nd
      exact h (.ref a) (g'.obj a) H' (s.trans s') r' S'
    | un o => exact (h : False).elim
    | vl r => exact (h : False).elim
  | er e st => exact h
  | stuck => exact h
theorem e_ref {f : En → Store → Res Slot} (h : SE X W e f) : EE X W e (vRef f) := by
  refine ⟨fun pins s σ H Q I hq => ?_⟩
  obtain ⟨g, env, st, os, he, ho, hs, hq⟩ := hq
  exact h.run pins s σ H Q I ⟨g, env, st, os, he, ho, hs, PostS.toRef hq⟩
end
end EV

set_option Elab.async false
set_option linter.all false
set_option autoImplicit false
set_option maxRecDepth 100000
set_option maxHeartbeats 400000
/-! statements, targets, loops, defs -/
namespace EV
open PySem PySem.Spec PyProof.Rows L2

section
variable (K : PySem.W.Frag) (mg : Str → Option Value) (W : Wi)
def PostSt (g : G) (H : Hp) (os : List Addr) (D : Ends) (r : ResS) : Prop :=
  match r with
  | .nx env st => ∀ σ' g' H' os', Step g H os g' H' os' → EnvOk K mg g' H' env σ' os' → OsOk g' H' os' → SOk K mg g' st H' → D.nx σ' H'
  | .rt d st => ∀ v g' H', Step g H os g' H' [] → Rep K mg g' d v → SOk K mg g' st H' → D.rt v H'
  | .br env st => ∀ σ' g' H' os', Step g H os g' H' os' → EnvOk K mg g' H' env σ' os' → OsOk g' H' os' → SOk K mg g' st H' → D.bk σ' H'
  | .ct env st => ∀ σ' g' H' os', Step g H os g' H' os' → EnvOk K mg g' H' env σ' os' → OsOk g' H' os' → SOk K mg g' st H' → D.ct σ' H'
  | .er e env st => ∀ σ' g' H' os', Step g H os g' H' os' → EnvOk K mg g' H' env σ' os' → OsOk g' H' os' → SOk K mg g' st H' → W e st g' H' σ'
  | .stuck => False
def tS (f : En → Store → ResS) : TS := fun D σ H => At K mg (fun g env st os => PostSt K mg W g H os D (f env st)) σ H
/-- a target -/
def tG (t : D → En → Store → ResS) : TG := fun v σ H Q => At K mg (fun g env st os => ∃ d, Rep K mg g d v ∧ PostSt K mg W g H os { nx := Q, rt := fun _ _ => False } (t d env st)) σ H
/-- targets, one after another -/
def tGs (t : List D → En → Store → ResS) : TGs := fun vs σ H Q => At K mg (fun g env st os => ∃ ds, RepL K mg g ds vs ∧ PostSt K mg W g H os { nx := Q, rt := fun _ _ => False } (t ds env st)) σ H
end
abbrev ST (X : Cx) (W : Wi) (st : Stmt) (f : En → Store → ResS) : Prop := PS X st (tS X.K X.mg W f)
abbrev STs (X : Cx) (W : Wi) (st : List Stmt) (f : En → Store → ResS) : Prop := PSs X st (tS X.K X.mg W f)
abbrev GE (X : Cx) (W : Wi) (e : Expr) (t : D → En → Store → ResS) : Prop := PG X e (tG X.K X.mg W t)
abbrev GEs (X : Cx) (W : Wi) (es : List Expr) (t : List D → En → Store → ResS) : Prop := PGs X es (tGs X.K X.mg W t)

section
variable {K : PySem.W.Frag} {mg : Str → Option Value} {W : Wi} {g g' : G} {H H' : Hp} {os os' : List Addr} {σ : L2.St}
theorem Step.drop (s : Step g H os g' H' os') : Step g H os g' H' [] := ⟨s.ext, s.fr, s.th, s.nf, s.nk, fun _ h => nomatch h⟩
theorem PostSt.step {D : Ends} {r : ResS} (h : PostSt K mg W g H os D r) (s : Step g H os g' H' os') : PostSt K mg W g' H' os' D r := by
  cases r with
  | nx env st => exact fun σ' g2 H2 os2 s2 => h σ' g2 H2 os2 (s.trans s2)
  | rt d st => exact fun v g2 H2 s2 => h v g2 H2 (s.trans s2)
  | br env st => exact fun σ' g2 H2 os2 s2 => h σ' g2 H2 os2 (s.trans s2)
  | ct env st => exact fun σ' g2 H2 os2 s2 => h σ' g2 H2 os2 (s.trans s2)
  | er e env st => exact fun σ' g2 H2 os2 s2 => h σ' g2 H2 os2 (s.trans s2)
  | stuck => exact h
/-- an expression's result goes on as a statement's -/
def Res.go {α : Type} (env : En) (r : Res α) (k : α → Store → ResS) : ResS := match r with
  | .ok a st => k a st
  | .er e st => .er e env st
  | .stuck => .stuck
theorem PostSt.go {α β : Type} {R : G → α → β → Prop} {D : Ends} {env : En} {r : Res α} {k : α → Store → ResS} (he : EnvOk K mg g H env σ os) (ho : OsOk g H os) (h : PostSt K mg W g H os D (r.go env k)) :
    Post K mg R W g H σ r (fun v H1 => ∃ g1 a st1, Step g H [] g1 H1 [] ∧ R g1 a v ∧ SOk K mg g1 st1 H1 ∧ EnvOk K mg g1 H1 env σ os ∧ OsOk g1 H1 os ∧ PostSt K mg W g1 H1 os D (k a st1)) := by
  cases r with
  | ok a st => exact fun v g2 H2 s2 r S => ⟨g2, a, st, s2, r, S, he.step' ho s2, ho.step s2, PostSt.step h (s2.frame os)⟩
  | er e st => exact fun g2 H2 s2 S => h σ g2 H2 os (s2.frame os) (he.step' ho s2) (ho.step s2) S
  | stuck => exact h
theorem OsOk.app {l : List Addr} (ho : OsOk g H os) (s : Step g H [] g' H' l) (hl : OsOk g' H' l) : OsOk g' H' (l ++ os) := by
  have s0 : Step g H [] g' H' [] := s.drop
  have ho' := ho.step s0
  refine ⟨?_, fun a h => ?_, fun a h => ?_, fun a h => ?_⟩
  · rw [List.nodup_append]
    refine ⟨hl.nd, ho.nd, fun x hx y hy e => ?_⟩
    subst e
    rcases s.no x hx with q | q
    · exact nomatch q
    · exact ho.th x hy q
  · rcases List.mem_append.mp h with h | h
    · exact hl.th a h
    · exact ho'.th a h
  · rcases List.mem_append.mp h with h | h
    · exact hl.kp a h
    · exact ho'.kp a h
  · rcases List.mem_append.mp h with h | h
    · exact hl.fp a h
    · exact ho'.fp a h
theorem Step.frameL {l : List Addr} (a : Step g H [] g' H' l) : Step g H os g' H' (l ++ os) :=
  ⟨a.ext, fun x h hf _ => a.fr x h hf (by simp), a.th, fun x h => (a.nf x h).imp_right (fun q => q.elim Or.inl (fun z => nomatch z)), fun x h => (a.nk x h).imp_right (fun q => q.elim Or.inl (fun z => z.elim (fun z => nomatch z) fun z => .inr (.inr z))), fun x h => by
    rcases List.mem_append.mp h with h | h
    · rcases a.no x h with q | q
      · exact nomatch q
      · exact .inr q
    · exact .inl h⟩
theorem PostSt.goS {D : Ends} {env : En} {r : Res Slot} {k : Slot → Store → ResS} (he : EnvOk K mg g H env σ os) (ho : OsOk g H os) (h : PostSt K mg W g H os D (r.go env k)) :
    PostS K mg W g H σ r (fun v H1 => ∃ g1 a st1 l, Step g H os g1 H1 (l ++ os) ∧ SlotOk K mg g1 H1 a (some v) l ∧ SOk K mg g1 st1 H1 ∧ EnvOk K mg g1 H1 env σ os ∧ OsOk g1 H1 (l ++ os) ∧ PostSt K mg W g1 H1 (l ++ os) D (k a st1)) := by
  cases r with
  | ok a st => exact fun v g2 H2 l s2 o r S => ⟨g2, a, st, l, s2.frameL, r, S, he.step' ho s2.drop, ho.app s2 o, PostSt.step h s2.frameL⟩
  | er e st => exact fun g2 H2 s2 S => h σ g2 H2 os (s2.frame os) (he.step' ho s2) (ho.step s2) S
  | stuck => exact h
theorem EnvOk.at_ : ∀ {env : En} {σ : L2.St} {os : List Addr} {i : Nat} {s : Slot}, EnvOk K mg g H env σ os → env[i]? = some s →
    ∃ o l os1 os2, σ[i]? = some o ∧ SlotOk K mg g H s o l ∧ os = os1 ++ (l ++ os2) ∧ ∀ s' o' l', SlotOk K mg g H s' o' l' → EnvOk K mg g H (env.set i s') (σ.set i o') (os1 ++ (l' ++ os2))
  | _, _, _, _, _, .nil, e => by simp at e
  | _, _, _, 0, _, .cons (l := l) (os := os0) h t, e => by
    simp at e; subst e
    exact ⟨_, l, [], os0, rfl, h, rfl, fun s' o' l' h' => by have q := EnvOk.cons h' t; exact q⟩
  | _, _, _, i + 1, s, .cons (l := l0) (os := os0) h t, e => by
    obtain ⟨o, l, os1, os2, h1, h2, h3, h4⟩ := EnvOk.at_ (i := i) (s := s) t (by simpa using e)
    refine ⟨o, l, l0 ++ os1, os2, by simpa using h1, h2, by rw [h3]; simp, fun s' o' l' h' => ?_⟩
    have q := EnvOk.cons h (h4 s' o' l' h')
    simpa using q
theorem EnvOk.length : ∀ {env : En} {σ : L2.St} {os : List Addr}, EnvOk K mg g H env σ os → env.length = σ.length
  | _, _, _, .nil => rfl
  | _, _, _, .cons _ t => by simp [EnvOk.length t]
theorem EnvOk.set {s : Slot} {o : Option V} {l : List Addr} {env : En} {os : List Addr} (hs : SlotOk K mg g H s o l) (i : Nat) (h : EnvOk K mg g H env σ os) :
    ∃ os', EnvOk K mg g H (env.set i s) (σ.set i o) os' ∧ (∀ a ∈ os', a ∈ l ++ os) ∧ ((l ++ os).Nodup → os'.Nodup) := by
  by_cases hi : i < env.length
  · obtain ⟨o', l', os1, os2, h1, h2, h3, h4⟩ := h.at_ (i := i) (s := env[i]) (by simp [hi])
    refine ⟨os1 ++ (l ++ os2), h4 _ _ _ hs, fun a ha => ?_, fun nd => ?_⟩
    · subst h3
      simp only [List.mem_append] at ha ⊢
      rcases ha with z | z | z
      · exact .inr (.inl z)
      · exact .inl z
      · exact .inr (.inr (.inr z))
    · subst h3
      simp only [List.nodup_append, List.mem_append] at nd ⊢
      obtain ⟨n1, ⟨n2, ⟨n3, n4, n5⟩, n6⟩, n7⟩ := nd
      refine ⟨n2, ⟨n1, n4, fun x hx y hy => n7 x hx y (.inr (.inr hy))⟩, fun x hx y hy e => ?_⟩
      subst e
      rcases hy with z | z
      · exact n7 x z x (.inl hx) rfl
      · exact n6 x hx x (.inr z) rfl
  · rw [List.set_eq_of_length_le (by omega), List.set_eq_of_length_le (by have := EnvOk.length h; omega)]
    exact ⟨os, h, fun a ha => List.mem_append_right _ ha, fun nd => (List.nodup_append.mp nd).2.1⟩
theorem OsOk.sub {os' : List Addr} (h : OsOk g H os) (hs : ∀ a ∈ os', a ∈ os) (nd : os'.Nodup) : OsOk g H os' :=
  ⟨nd, fun a x => h.th a (hs a x), fun a x => h.kp a (hs a x), fun a x => h.fp a (hs a x)⟩
theorem Step.sub {os2 : List Addr} (s : Step g H os g' H' os') (hs : ∀ a ∈ os2, a ∈ os') : Step g H os g' H' os2 :=
  ⟨s.ext, s.fr, s.th, s.nf, s.nk, fun a h => s.no a (hs a h)⟩
end

section
variable {X : Cx} {W : Wi} {st : Stmt} {rest : List Stmt} {f k : En → Store → ResS} {e : Expr} {fe : En → Store → Res D} {pos : Pos}
def sNil : En → Store → ResS := fun env st => .nx env st
def sSeq (f k : En → Store → ResS) : En → Store → ResS := fun env st => match f env st with
  | .nx env st => k env st
  | r => r
theorem At.imp {K : PySem.W.Frag} {mg : Str → Option Value} {P P' : G → En → Store → List Addr → Prop} {σ : L2.St} {H : Hp} (h : At K mg P σ H) (k : ∀ g env st os, P g env st os → P' g env st os) : At K mg P' σ H := by
  obtain ⟨g, env, st, os, a, b, c, d⟩ := h
  exact ⟨g, env, st, os, a, b, c, k _ _ _ _ d⟩
theorem ss_nil : STs X W [] sNil := by
  refine ⟨fun pins s σ H D I h => ?_⟩
  obtain ⟨g, env, st, os, he, ho, hs, h⟩ := h
  exact pss_nil.run pins s σ H D I (h σ g H os Step.refl he ho hs)
theorem ss_cons (h1 : ST X W st f) (h2 : STs X W rest k) : STs X W (st :: rest) (sSeq f k) := by
  refine ⟨fun pins s σ H D I h => ?_⟩
  refine (pss_cons h1 h2).run pins s σ H D I ?_
  obtain ⟨g, env, st, os, he, ho, hs, h⟩ := h
  refine ⟨g, env, st, os, he, ho, hs, ?_⟩
  unfold sSeq at h
  show PostSt _ _ _ _ _ _ _ (f env st)
  generalize f env st = r at h ⊢
  cases r with
  | nx env1 st1 => exact fun σ' g' H' os' s he' ho' hs' => ⟨g', env1, st1, os', he', ho', hs', PostSt.step h s⟩
  | rt d st1 => exact h
  | br env1 st1 => exact h
  | ct env1 st1 => exact h
  | er x env1 st1 => exact h
  | stuck => exact h
theorem ss_one (h1 : ST X W st f) : STs X W [st] f := pss_one h1
/-- a ghost ahead of a block -/
theorem ss_ghost {j : En → Store → ResS} (h : STs X W rest f) (hj : ∀ D σ H, tS X.K X.mg W j D σ H → tS X.K X.mg W f D σ H) : STs X W rest j :=
  ⟨fun pins s σ H D I q => h.run pins s σ H D I (hj D σ H q)⟩
/-- an own list of slot i is frozen -/
def sFrz (i : Nat) (f : En → Store → ResS) : En → Store → ResS := fun env st => match env[i]? with
  | some (.ol ds) => f (env.set i (.vl (.lst ds))) st
  | _ => f env st
theorem ss_frz (i : Nat) (h : STs X W rest f) : STs X W rest (sFrz i f) := by
  refine ss_ghost h fun D σ H q => ?_
  obtain ⟨g, env, st, os, he, ho, hs, q⟩ := q
  unfold sFrz at q
  split at q
  · next ds hd =>
    obtain ⟨o, l, os1, os2, h1, h2, h3, h4⟩ := he.at_ hd
    cases h2 with
    | @ol _ a vs ha r =>
      have hm : a ∈ os := by rw [h3]; simp
      have hk := ho.kp a hm
      have hf := ho.fp a hm
      have e' := ext_freeze (o := .lst vs) hk
      obtain ⟨o2, l2, os3, os4, i1, i2, i3, i4⟩ := (he.step e' fun _ _ => rfl).at_ hd
      rw [h1] at i1
      cases i1
      have q1 := i4 (.vl (.lst ds)) (some (.ref a)) [] (.vl (rep_lstF hk r))
      have hl2 : l2 = [a] := by cases i2; rfl
      subst hl2
      have hset : σ.set i (some (V.ref a)) = σ := by
        obtain ⟨hi, hv⟩ := List.getElem?_eq_some_iff.mp h1
        rw [← hv, List.set_getElem_self]
      rw [hset] at q1
      have nd := ho.nd
      rw [i3] at nd
      have hsub : ∀ b ∈ os3 ++ ([] ++ os4), b ∈ os ∧ b ≠ a := fun b hb => by
        simp only [List.nodup_append, List.mem_append, List.mem_singleton] at nd
        simp only [List.nil_append, List.mem_append] at hb
        refine ⟨by rw [i3]; simp only [List.mem_append]; exact hb.imp_right .inr, fun z => ?_⟩
        subst z
        rcases hb with hb | hb
        · exact nd.2.2 b hb b (.inl rfl) rfl
        · exact nd.2.1.2.2 b rfl b hb rfl
      refine ⟨g.freeze a (.lst vs), env.set i (.vl (.lst ds)), st, _, q1, ⟨?_, fun b hb => ho.th b (hsub b hb).1, fun b hb => ?_, fun b hb => ho.fp b (hsub b hb).1⟩, hs.freeze ha hk hf, PostSt.step q ⟨e', fun _ _ _ _ => rfl, fun _ h => h, fun _ h => .inl h, fun b h => ?_, fun b hb => .inl (hsub b hb).1⟩⟩
      · simp only [List.nodup_append, List.mem_append, List.nil_append] at nd ⊢
        exact ⟨nd.1, nd.2.1.2.1, fun x hx y hy => nd.2.2 x hx y (.inr hy)⟩
      · show upd g.kp a (.lst vs) b = none
        rw [upd_ne (hsub b hb).2]
        exact ho.kp b (hsub b hb).1
      · by_cases z : b = a
        · subst z
          exact .inr (.inr (.inl hm))
        · have h' : upd g.kp a (.lst vs) b ≠ none := h
          rw [upd_ne z] at h'
          exact .inl h'
  · exact ⟨g, env, st, os, he, ho, hs, q⟩
end
end EV

set_option Elab.async false
set_option linter.all false
set_option autoImplicit false
set_option maxRecDepth 100000
set_option maxHeartbeats 400000
/-! statements one by one; loops; defs -/
namespace EV
open PySem PySem.Spec PyProof.Rows L2

section
variable {X : Cx} {W : Wi} {st : Stmt} {f k : En → Store → ResS} {e : Expr} {fe : En → Store → Res D} {fs : En → Store → Res Slot} {pos : Pos}
def sRet (fe : En → Store → Res D) : En → Store → ResS := fun env st => (fe env st).go env fun d st => .rt d st
theorem st_ret (he : EE X W e fe) : ST X W (.Return (some e) pos) (sRet fe) := by
  refine ⟨fun pins s σ H D I h => ?_⟩
  obtain ⟨g, env, st, os, hv, ho, hs, h⟩ := h
  refine (ps_ret he).run pins s σ H D I ⟨g, env, st, os, hv, ho, hs, (PostSt.go hv ho h).imp fun v H1 q => ?_⟩
  obtain ⟨g1, a, st1, s1, r, S1, e1, o1, h1⟩ := q
  exact h1 v g1 H1 Step.refl.drop r S1
def sRetN : En → Store → ResS := fun _ st => .rt .non st
theorem st_retN : ST X W (.Return none pos) sRetN := by
  refine ⟨fun pins s σ H D I h => ?_⟩
  obtain ⟨g, env, st, os, hv, ho, hs, h⟩ := h
  exact ps_retN.run pins s σ H D I (h .non g H Step.refl.drop .non hs)
def sExpr (fe : En → Store → Res D) : En → Store → ResS := fun env st => (fe env st).go env fun _ st => .nx env st
theorem st_expr (he : EE X W e fe) (hs : swapsWith e none pos.line X.env = pure false := by rfl) : ST X W (.Expr e pos) (sExpr fe) := by
  refine ⟨fun pins s σ H D I h => ?_⟩
  obtain ⟨g, env, st, os, hv, ho, hS, h⟩ := h
  refine (ps_expr he hs).run pins s σ H D I ⟨g, env, st, os, hv, ho, hS, (PostSt.go hv ho h).imp fun v H1 q => ?_⟩
  obtain ⟨g1, a, st1, s1, r, S1, e1, o1, h1⟩ := q
  exact h1 σ g1 H1 os Step.refl e1 o1 S1
theorem st_doc {x : Str} {j : Nat} {pos' : Pos} : ST X W (.Expr (.Constant (.str x) j pos) pos') sNil := by
  refine ⟨fun pins s σ H D I h => ?_⟩
  obtain ⟨g, env, st, os, hv, ho, hS, h⟩ := h
  exact ps_doc.run pins s σ H D I (h σ g H os Step.refl hv ho hS)
theorem st_pass : ST X W (.Pass pos) sNil := by
  refine ⟨fun pins s σ H D I h => ?_⟩
  obtain ⟨g, env, st, os, hv, ho, hS, h⟩ := h
  exact ps_pass.run pins s σ H D I (h σ g H os Step.refl hv ho hS)
def sBrk : En → Store → ResS := fun env st => .br env st
theorem st_break : ST X W (.Break pos) sBrk := by
  refine ⟨fun pins s σ H D I h => ?_⟩
  obtain ⟨g, env, st, os, hv, ho, hS, h⟩ := h
  exact ps_break.run pins s σ H D I (h σ g H os Step.refl hv ho hS)
def sCont : En → Store → ResS := fun env st => .ct env st
theorem st_continue : ST X W (.Continue pos) sCont := by
  refine ⟨fun pins s σ H D I h => ?_⟩
  obtain ⟨g, env, st, os, hv, ho, hS, h⟩ := h
  exact ps_continue.run pins s σ H D I (h σ g H os Step.refl hv ho hS)
def sIf (t : En → Store → Res Bool) (f k : En → Store → ResS) : En → Store → ResS := fun env st => (t env st).go env fun c st => if c = true then f env st else k env st
theorem st_if {c : Expr} {a b : List Stmt} {t : En → Store → Res Bool} (hc : BE X W c t) (ha : STs X W a f) (hb : STs X W b k) : ST X W (.If c a b pos) (sIf t f k) := by
  refine ⟨fun pins s σ H D I h => ?_⟩
  obtain ⟨g, env, st, os, hv, ho, hS, h⟩ := h
  refine (ps_if hc ha hb).run pins s σ H D I ⟨g, env, st, os, hv, ho, hS, (PostSt.go hv ho h).imp fun v H1 q => ?_⟩
  obtain ⟨g1, a, st1, s1, r, S1, e1, o1, h1⟩ := q
  cases r
  cases v with
  | true => exact iteT ⟨g1, env, st1, os, e1, o1, S1, h1⟩
  | false => exact iteF ⟨g1, env, st1, os, e1, o1, S1, h1⟩
/-- behind a name's store -/
theorem PostSt.set {K : PySem.W.Frag} {mg : Str → Option Value} {g : G} {H : Hp} {os l : List Addr} {σ : L2.St} {env : En} {s : Slot} {o : Option V} {i : Nat} {st : Store} {D : Ends}
    (he : EnvOk K mg g H env σ os) (ho : OsOk g H (l ++ os)) (hs : SlotOk K mg g H s o l) (S : SOk K mg g st H) (h : PostSt K mg W g H (l ++ os) D (.nx (env.set i s) st)) : D.nx (σ.set i o) H := by
  obtain ⟨os', h1, h2, h3⟩ := he.set hs i
  exact h _ g H os' (Step.refl.sub h2) h1 (ho.sub h2 (h3 ho.nd)) S
def sSet (i : Nat) (fe : En → Store → Res D) : En → Store → ResS := fun env st => (fe env st).go env fun d st => .nx (env.set i (.vl d)) st
theorem st_set (i : Nat) {x : Str} {pos' : Pos} (hN : X.N.Nodup) (hi : X.N[i]? = some x) (hx : Loc X.env.scope x) (he : EE X W e fe) (hs : swapsWith e (some (.Name x pos')) pos.line X.env = pure false := by rfl) (hf : X.fn x = true ∨ X.env.scope.names.lookup x = some .local := by first | exact .inl rfl | exact .inr rfl | assumption) :
    ST X W (.Assign [.Name x pos'] e pos) (sSet i fe) := by
  refine ⟨fun pins s σ H D I h => ?_⟩
  obtain ⟨g, env, st, os, hv, ho, hS, h⟩ := h
  refine (ps_set hN hi hx he hs hf).run pins s σ H D I ⟨g, env, st, os, hv, ho, hS, (PostSt.go hv ho h).imp fun v H1 q => ?_⟩
  obtain ⟨g1, a, st1, s1, r, S1, e1, o1, h1⟩ := q
  exact PostSt.set (l := []) e1 o1 (.vl r) S1 h1
def sSetS (i : Nat) (fs : En → Store → Res Slot) : En → Store → ResS := fun env st => (fs env st).go env fun d st => .nx (env.set i d) st
theorem st_setS (i : Nat) {x : Str} {pos' : Pos} (hN : X.N.Nodup) (hi : X.N[i]? = some x) (hx : Loc X.env.scope x) (he : SE X W e fs) (hs : swapsWith e (some (.Name x pos')) pos.line X.env = pure false := by rfl) (hf : X.fn x = true ∨ X.env.scope.names.lookup x = some .local := by first | exact .inl rfl | exact .inr rfl | assumption) :
    ST X W (.Assign [.Name x pos'] e pos) (sSetS i fs) := by
  refine ⟨fun pins s σ H D I h => ?_⟩
  obtain ⟨g, env, st, os, hv, ho, hS, h⟩ := h
  refine (ps_set hN hi hx he hs hf).run pins s σ H D I ⟨g, env, st, os, hv, ho, hS, ?_⟩
  have q := PostSt.goS hv ho h
  revert q
  show PostS _ _ _ _ _ _ (fs env st) _ → PostS _ _ _ _ _ _ (fs env st) _
  intro q
  cases r : fs env st with
  | ok a st1 =>
    rw [r] at q
    intro v g' H' l s1 o1 so S1
    obtain ⟨g1, a1, st2, l1, s2, so2, S2, e2, o2, h2⟩ := q v g' H' l s1 o1 so S1
    exact PostSt.set e2 o2 so2 S2 h2
  | er x st1 => rw [r] at q; exact q
  | stuck => rw [r] at q; exact q
/-! ### targets -/
def gN (i : Nat) : D → En → Store → ResS := fun d env st => .nx (env.set i (.vl d)) st
theorem g_name (i : Nat) {x : Str} (hN : X.N.Nodup) (hi : X.N[i]? = some x) (hx : Loc X.env.scope x) (hf : X.fn x = true ∨ X.env.scope.names.lookup x = some .local := by first | exact .inl rfl | exact .inr rfl | assumption) : GE X W (.Name x pos) (gN i) := by
  refine ⟨fun pins s σ H v u Q I r h => ?_⟩
  obtain ⟨g, env, st, os, hv, ho, hS, d, rd, h⟩ := h
  exact (pg_name hN hi hx hf).run pins s σ H v u Q I r (PostSt.set (D := { nx := Q, rt := fun _ _ => False }) (l := []) hv ho (.vl rd) hS h)
def gsN : List D → En → Store → ResS := fun ds env st => match ds with
  | [] => .nx env st
  | _ => .stuck
def gsC (t : D → En → Store → ResS) (u : List D → En → Store → ResS) : List D → En → Store → ResS := fun ds env st => match ds with
  | d :: ds => match t d env st with
    | .nx env st => u ds env st
    | .er e env st => .er e env st
    | _ => .stuck
  | _ => .stuck
theorem gs_nil : GEs X W [] gsN := by
  refine ⟨fun pins s σ H vs us Q I r h => ?_⟩
  obtain ⟨g, env, st, os, hv, ho, hS, ds, rd, h⟩ := h
  cases rd with
  | nil => exact pgs_nil.run pins s σ H _ us Q I r ⟨rfl, h σ g H os Step.refl hv ho hS⟩
  | cons _ _ => exact (h : False).elim
theorem gs_cons {es : List Expr} {t : D → En → Store → ResS} {u : List D → En → Store → ResS} (h1 : GE X W e t) (h2 : GEs X W es u)
    (hs : (assignEach (e :: es) X.env).map (·.2) = assign e X.env :: (assignEach es X.env).map (·.2) := by rfl) : GEs X W (e :: es) (gsC t u) := by
  refine ⟨fun pins s σ H vs us Q I r h => ?_⟩
  obtain ⟨g, env, st, os, hv, ho, hS, ds, rd, h⟩ := h
  cases rd with
  | nil => exact (h : False).elim
  | @cons d dr v vr r1 rr =>
    refine (pgs_cons h1 h2 hs).run pins s σ H _ us Q I r ⟨v, vr, rfl, g, env, st, os, hv, ho, hS, d, r1, ?_⟩
    have h' : PostSt X.K X.mg W g H os { nx := Q, rt := fun _ _ => False } (match t d env st with
      | .nx env st => u dr env st
      | .er e env st => .er e env st
      | _ => .stuck) := h
    generalize t d env st = q at h' ⊢
    cases q with
    | nx env1 st1 => exact fun σ' g' H' os' s' he' ho' hs' => ⟨g', env1, st1, os', he', ho', hs', dr, rr.ext s'.ext, PostSt.step h' s'⟩
    | er x env1 st1 => exact h'
    | _ => exact (h' : False).elim
/-- the items of a value that is unpacked -/
def tupOf : D → Option (List D)
  | .tup ds => some ds
  | _ => none
def gTp (n : Nat) (t : List D → En → Store → ResS) : D → En → Store → ResS := fun d env st => match d with
  | .tup ds => if ds.length = n then t ds env st else .stuck
  | _ => .stuck
theorem SOk.sqT {K : PySem.W.Frag} {mg : Str → Option Value} {g : G} {st : Store} {H : Hp} (S : SOk K mg g st H) {a : Addr} {vs : List V} (h : TupAt K g.kp a vs) : SqT K H a vs := by
  rcases h with h | h
  · exact .inl (.inl (S.kp _ _ h))
  · exact h.2.elim
theorem SOk.tupAt {K : PySem.W.Frag} {mg : Str → Option Value} {g : G} {st : Store} {H : Hp} (S : SOk K mg g st H) {a : Addr} {vs : List V} (h : TupAt K g.kp a vs) : TupAt K H a vs := h.imp_left (S.kp _ _)
theorem SOk.sqL {K : PySem.W.Frag} {mg : Str → Option Value} {g : G} {st : Store} {H : Hp} (S : SOk K mg g st H) {a : Addr} {vs : List V} (h : SqL K g.kp a vs) : SqL K H a vs := by
  rcases h with (h | ⟨o, h⟩) | h
  · exact .inl (.inl (S.kp _ _ h))
  · exact .inl (.inr ⟨o, S.kp _ _ h⟩)
  · exact .inr h
theorem g_tup {es : List Expr} {j : Nat} {t : List D → En → Store → ResS} (n : Nat) (hc : X.calm = true) (h : GEs X W es t)
    (hn : (assignEach es X.env).length = n := by rfl) (hst : (assignEach es X.env).findIdx? (·.1) = none := by rfl) : GE X W (.Tuple es j pos) (gTp n t) := by
  refine ⟨fun pins s σ H v u Q I r hw => ?_⟩
  obtain ⟨g, env, st, os, hv, ho, hS, d, rd, hw⟩ := hw
  cases rd with
  | @tup a vs ds hq rr =>
    have hw' : PostSt X.K X.mg W g H os { nx := Q, rt := fun _ _ => False } (if ds.length = n then t ds env st else .stuck) := hw
    split at hw'
    · next hl => exact (pg_tup hc h hn hst).run pins s σ H _ u Q I r ⟨a, vs, rfl, hS.sqT hq, by rw [← rr.length]; exact hl, g, env, st, os, hv, ho, hS, ds, rr, hw'⟩
    · exact (hw' : False).elim
  | _ => exact (hw : False).elim
def sAsg (fe : En → Store → Res D) (t : D → En → Store → ResS) : En → Store → ResS := fun env st => (fe env st).go env fun d st => match t d env st with
    | .nx env st => .nx env st
    | .er e env st => .er e env st
    | _ => .stuck
theorem st_asg {tg : Expr} {t : D → En → Store → ResS} (he : EE X W e fe) (hg : GE X W tg t) (hs : swapsWithSole [tg] e pos.line X.env = pure false := by rfl) (hw : swappedStores [tg] e X.env = pure none := by rfl)
    (h1 : (assignEach [tg] X.env).map (·.2) = [assign tg X.env] := by rfl) : ST X W (.Assign [tg] e pos) (sAsg fe t) := by
  refine ⟨fun pins s σ H D I h => ?_⟩
  obtain ⟨g, env, st, os, hv, ho, hS, h⟩ := h
  refine (ps_asg he hg hs hw h1).run pins s σ H D I ⟨g, env, st, os, hv, ho, hS, (PostSt.go hv ho h).imp fun v H1 q => ?_⟩
  obtain ⟨g1, a, st1, s1, r, S1, e1, o1, h1⟩ := q
  refine ⟨g1, env, st1, os, e1, o1, S1, a, r, ?_⟩
  revert h1
  generalize t a env st1 = q
  intro h1
  cases q with
  | nx env2 st2 => exact h1
  | er x env2 st2 => exact h1
  | _ => exact (h1 : False).elim
/-- a, b = x, y: two plain names -/
def sPar (i j : Nat) (f : En → Store → Res (List D)) : En → Store → ResS := fun env st => (f env st).go env fun ds st => match ds with
  | [a, b] => .nx ((env.set i (.vl a)).set j (.vl b)) st
  | _ => .stuck
theorem st_par {i j : Nat} {x y : Str} {a b : Expr} {fa : En → Store → Res (List D)} {px py pt : Pos} {kt k2 : Nat} {pt2 : Pos} (hc : X.calm = true) (hN : X.N.Nodup) (hi : X.N[i]? = some x) (hj : X.N[j]? = some y) (hij : i ≠ j)
    (hx : X.env.scope.names.lookup x = some .local) (hy : X.env.scope.names.lookup y = some .local) (ha : AE X W [a, b] fa)
    (hw : swappedStores [.Tuple [.Name x px, .Name y py] kt pt] (.Tuple [a, b] k2 pt2) X.env = pure (some [x, y]))
    (hs : swapsWithSole [.Tuple [.Name x px, .Name y py] kt pt] (.Tuple [a, b] k2 pt2) pos.line X.env = pure false := by rfl) :
    ST X W (.Assign [.Tuple [.Name x px, .Name y py] kt pt] (.Tuple [a, b] k2 pt2) pos) (sPar i j fa) := by
  refine ⟨fun pins s σ H D I h => ?_⟩
  obtain ⟨g, env, st, os, hv, ho, hS, h⟩ := h
  refine (ps_par hc hN hi hj hij hx hy ha hw hs).run pins s σ H D I ⟨g, env, st, os, hv, ho, hS, (PostSt.go hv ho h).imp fun v H1 q => ?_⟩
  obtain ⟨g1, a, st1, s1, r, S1, e1, o1, h1⟩ := q
  cases r with
  | nil => exact (h1 : False).elim
  | cons r t => cases t with
    | nil => exact (h1 : False).elim
    | cons r' t' => cases t' with
      | cons _ _ => exact (h1 : False).elim
      | nil =>
        refine ⟨_, _, rfl, ?_⟩
        obtain ⟨os', q1, q2, q3⟩ := e1.set (l := []) (.vl r) i
        obtain ⟨os2, p1, p2, p3⟩ := q1.set (l := []) (.vl r') j
        have o2 := o1.sub (os' := os') q2 (q3 (by simpa using o1.nd))
        exact h1 _ g1 H1 os2 (Step.refl.sub fun a ha => by simpa using q2 a (by simpa using p2 a ha)) p1 (o2.sub p2 (p3 (by simpa using o2.nd))) S1

/-! ### what is walked -/
/-- J yields the data ds, one by one -/
def Walks (K : PySem.W.Frag) (mg : Str → Option Value) (J : It) (g0 : G) (ds : List D) : Prop :=
  ∀ g H st, Ext g0 g → SOk K mg g st H → (∀ i, ds.length ≤ i → J.stop i H) ∧
    ∀ i d, ds[i]? = some d → J.go i H ∧ ∀ x H', J.yld i H x H' → ∃ g', Step g H [] g' H' [] ∧ Rep K mg g' d x ∧ SOk K mg g' st H'
def PostI (K : PySem.W.Frag) (mg : Str → Option Value) (W : Wi) (g : G) (H : Hp) (σ : L2.St) (r : Res (List D)) (R : It → Hp → Prop) : Prop := match r with
  | .ok ds st' => ∀ J g' H', Step g H [] g' H' [] → SOk K mg g' st' H' → Walks K mg J g' ds → R J H'
  | .er e st' => ∀ g' H', Step g H [] g' H' [] → SOk K mg g' st' H' → W e st' g' H' σ
  | .stuck => False
def tI (K : PySem.W.Frag) (mg : Str → Option Value) (W : Wi) (f : En → Store → Res (List D)) : TI := fun σ H R => At K mg (fun g env st _ => PostI K mg W g H σ (f env st) R) σ H
abbrev IE (X : Cx) (W : Wi) (tg e : Expr) (f : En → Store → Res (List D)) : Prop := PI X tg e (tI X.K X.mg W f)
def forL (t : D → En → Store → ResS) (body : En → Store → ResS) : List D → En → Store → ResS
  | [], env, st => .nx env st
  | d :: ds, env, st => match t d env st with
    | .nx env st => match body env st with
      | .nx env st => forL t body ds env st
      | .ct env st => forL t body ds env st
      | .br env st => .nx env st
      | r => r
    | .er e env st => .er e env st
    | _ => .stuck
def sFor (fi : En → Store → Res (List D)) (t : D → En → Store → ResS) (body : En → Store → ResS) : En → Store → ResS := fun env st => (fi env st).go env fun ds st => forL t body ds env st
theorem st_for {tg iter : Expr} {bd : List Stmt} {fi : En → Store → Res (List D)} {t : D → En → Store → ResS} {body : En → Store → ResS} (hp : PassesOwn (model X.prog X.w) X.A X.env X.xe) (hc : X.calm = true) (hi : IE X W tg iter fi) (hg : GE X W tg t) (hb : STs X W bd body)
    (hs : ∀ x, foldedSetIterable iter X.env x = pure x := by intro _; rfl) : ST X W (.For tg iter bd [] pos) (sFor fi t body) := by
  refine ⟨fun pins s σ H D I h => ?_⟩
  obtain ⟨g, env, st, os, hv, ho, hS, h⟩ := h
  refine (ps_for hp hc hi hg hb hs).run pins s σ H D I ⟨g, env, st, os, hv, ho, hS, ?_⟩
  have h' : PostSt X.K X.mg W g H os D ((fi env st).go env fun ds st => forL t body ds env st) := h
  show PostI _ _ _ _ _ _ (fi env st) _
  generalize fi env st = r at h' ⊢
  cases r with
  | stuck => exact h'
  | er x st1 => exact fun g2 H2 s2 S => h' σ g2 H2 os (s2.frame os) (hv.step' ho s2) (ho.step s2) S
  | ok ds st1 =>
    intro J g1 H1 s1 S1 wk
    refine ⟨fun i m σ H => m = ds.length - i ∧ i ≤ ds.length ∧ At X.K X.mg (fun g env st os => Ext g1 g ∧ PostSt X.K X.mg W g H os D (forL t body (ds.drop i) env st)) σ H, ⟨_, rfl, Nat.zero_le _, g1, env, st1, os, hv.step' ho s1, ho.step s1, S1, Ext.refl _, by rw [List.drop_zero]; exact PostSt.step h' (s1.frame os)⟩, ?_⟩
    rintro i m σ2 H2 ⟨rfl, hle, g2, env2, st2, os2, hv2, ho2, S2, x2, h2⟩
    obtain ⟨w1, w2⟩ := wk g2 H2 st2 x2 S2
    by_cases hlt : i < ds.length
    · refine .inr ⟨(w2 i ds[i] (by simp [hlt])).1, fun σ H => At X.K X.mg (fun g env st os => Ext g1 g ∧ PostSt X.K X.mg W g H os D (forL t body (ds.drop (i + 1)) env st)) σ H, fun σ' H' n => ⟨_, by omega, rfl, hlt, n⟩, fun x H3 y => ?_⟩
      obtain ⟨g3, s3, r3, S3⟩ := (w2 i ds[i] (by simp [hlt])).2 x H3 y
      refine ⟨g3, env2, st2, os2, hv2.step' ho2 s3, ho2.step s3, S3, ds[i], r3, ?_⟩
      rw [List.drop_eq_getElem_cons hlt] at h2
      have h3 := PostSt.step h2 (s3.frame os2)
      have x3 := x2.trans s3.ext
      unfold forL at h3
      generalize t ds[i] env2 st2 = q at h3 ⊢
      cases q with
      | nx env4 st4 =>
        intro σ4 g4 H4 os4 s4 hv4 ho4 S4
        refine ⟨g4, env4, st4, os4, hv4, ho4, S4, ?_⟩
        have h4 := PostSt.step h3 s4
        have x4 := x3.trans s4.ext
        simp only at h4
        show PostSt _ _ _ _ _ _ _ (body env4 st4)
        generalize body env4 st4 = q2 at h4 ⊢
        cases q2 with
        | nx env5 st5 => exact fun σ5 g5 H5 os5 s5 hv5 ho5 S5 => ⟨g5, env5, st5, os5, hv5, ho5, S5, x4.trans s5.ext, PostSt.step h4 s5⟩
        | ct env5 st5 => exact fun σ5 g5 H5 os5 s5 hv5 ho5 S5 => ⟨g5, env5, st5, os5, hv5, ho5, S5, x4.trans s5.ext, PostSt.step h4 s5⟩
        | br env5 st5 => exact h4
        | rt d st5 => exact h4
        | er x env5 st5 => exact h4
        | stuck => exact h4
      | er x env4 st4 => exact h3
      | _ => exact (h3 : False).elim
    · have e : i = ds.length := by omega
      subst e
      refine .inl ⟨w1 _ (Nat.le_refl _), ?_⟩
      rw [List.drop_length] at h2
      exact h2 σ2 g2 H2 os2 Step.refl hv2 ho2 S2
/-! ### while -/
def whL (t : En → Store → Res Bool) (body : En → Store → ResS) : Nat → En → Store → ResS
  | 0, _, _ => .stuck
  | n + 1, env, st => (t env st).go env fun c st => if c = true then (match body env st with
      | .nx env st => whL t body n env st
      | .ct env st => whL t body n env st
      | .br env st => .nx env st
      | r => r) else .nx env st
theorem st_while (n : Nat) {c : Expr} {bd : List Stmt} {t : En → Store → Res Bool} {body : En → Store → ResS} (hp : PassesOwn (model X.prog X.w) X.A X.env X.xe) (hc : BE X W c t) (hb : STs X W bd body) : ST X W (.While c bd [] pos) (whL t body n) := by
  refine ⟨fun pins s σ H D I h => ?_⟩
  refine (ps_while hp hc hb).run pins s σ H D I ⟨fun m σ H => At X.K X.mg (fun g env st os => PostSt X.K X.mg W g H os D (whL t body m env st)) σ H, ⟨n, h⟩, ?_⟩
  rintro m σ2 H2 ⟨g, env, st, os, hv, ho, hS, h2⟩
  cases m with
  | zero => exact (h2 : False).elim
  | succ m =>
    refine ⟨g, env, st, os, hv, ho, hS, (PostSt.go hv ho h2).imp fun v H1 q => ?_⟩
    obtain ⟨g1, a, st1, s1, r, S1, e1, o1, h1⟩ := q
    cases r
    cases v with
    | true =>
      refine iteT ⟨_, fun σ' H' n => ⟨m, Nat.lt_succ_self m, n⟩, g1, env, st1, os, e1, o1, S1, ?_⟩
      simp only [if_true] at h1
      show PostSt _ _ _ _ _ _ _ (body env st1)
      generalize body env st1 = q2 at h1 ⊢
      cases q2 with
      | nx env5 st5 => exact fun σ5 g5 H5 os5 s5 hv5 ho5 S5 => ⟨g5, env5, st5, os5, hv5, ho5, S5, PostSt.step h1 s5⟩
      | ct env5 st5 => exact fun σ5 g5 H5 os5 s5 hv5 ho5 S5 => ⟨g5, env5, st5, os5, hv5, ho5, S5, PostSt.step h1 s5⟩
      | br env5 st5 => exact h1
      | rt d st5 => exact h1
      | er x env5 st5 => exact h1
      | stuck => exact h1
    | false => exact iteF (h1 σ2 g1 H1 os Step.refl e1 o1 S1)
end
end EV

set_option Elab.async false
set_option linter.all false
set_option autoImplicit false
set_option maxRecDepth 100000
set_option maxHeartbeats 400000
/-! defs and their calls -/
namespace EV
open PySem PySem.Spec PyProof.Rows L2

structure Rm (k : Nat) (A : Around) : Prop where
  room : Room k A
  gd : A.guards = some []
theorem Rm.mono {j k : Nat} {A : Around} (r : Rm k A) (h : j ≤ k) : Rm j A := ⟨r.room.mono h, r.gd⟩

/-- how an error lies in the heap -/
def ErOk (K : PySem.W.Frag) (mg : Str → Option Value) (g : G) (e : Er) (cls : Value) (d : Option Addr) : Prop :=
  mg e.cls = some cls ∧ ∃ c dd zs, cls = .ref c ∧ d = some dd ∧ g.kp dd = some (.xd zs) ∧ RepF K mg g e.fs zs
def wOf (K : PySem.W.Frag) (mg : Str → Option Value) (W : Wi) : WX := fun cls d σ H' => ∃ e st' g', SOk K mg g' st' H' ∧ ErOk K mg g' e cls d ∧ W e st' g' H' σ
theorem takes0 {X : Cx} {K : PySem.W.Frag} {mg : Str → Option Value} : Takes X (wOf K mg W0) := fun u s' ⟨a, B, sI, pins, σ, H, cls, d, e, I, nb, up, sky, na, os, ag, w⟩ => by
  obtain ⟨_, _, _, _, _, z⟩ := w
  exact z.elim

/-- a def's promise by its function over data -/
def spE (K : PySem.W.Frag) (mg : Str → Option Value) (n : Nat) (F : List D → Store → Res D) : Sp := fun vs H Q E => ∃ g ds st, ds.length = n ∧ RepL K mg g ds vs ∧ SOk K mg g st H ∧ match F ds st with
  | .ok d st' => ∀ v g' H', Step g H [] g' H' [] → Rep K mg g' d v → SOk K mg g' st' H' → Q v H'
  | .er e st' => ∀ cls d g' H', Step g H [] g' H' [] → SOk K mg g' st' H' → ErOk K mg g' e cls d → E cls d H'
  | .stuck => False

structure FnG (P : Program) (w : World) (K : PySem.W.Frag) (mg : Str → Option Value) (base : Heap) (k : Nat) (f : Addr) (fd : FuncData) (ps : List Str) (sp : Sp) : Prop where
  len : ∀ vs H Q E, sp vs H Q E → vs.length = ps.length
  run : ∀ (A : Around) (outer : List Env) (s : Shared) (H : Hp) (args : Args) (us : List Value) (vs : List V) (Q : VK) (E : XK), Rm k A → Env0 P w K mg base A outer s H → BindsTo s fd args (ps.zip us) → Vals vs us → sp vs H Q E →
    codeAny (model P w) A (.call (.ref f) args) (CR (CX P w) outer P w H s Q E) s
theorem FnG.mono {P : Program} {w : World} {K : PySem.W.Frag} {mg : Str → Option Value} {base : Heap} {j k : Nat} {f : Addr} {fd : FuncData} {ps : List Str} {sp : Sp} (F : FnG P w K mg base j f fd ps sp) (h : j ≤ k) :
    FnG P w K mg base k f fd ps sp := ⟨F.len, fun A outer s H args us vs Q E hr => F.run A outer s H args us vs Q E (hr.mono h)⟩

theorem fnG_of {P : Program} {w : World} {K : PySem.W.Frag} {mg : Str → Option Value} {base : Heap} {k : Nat} {f : Addr} {name qual : Str} {params : Arguments} {body : List Stmt} {scope : Scope} {dV kV doc pm cdv ct oc : Value} {an od : Option Addr}
    {osl : Array (Option Value)} {N ps : List Str} {sp : Sp} (lk : K.lookup f = some ⟨oc, od, .func (PySem.W.fnOf name qual params body scope dV kV doc pm an cdv ct), osl⟩) (hcd : PySem.W.codeIn K cdv qual = true) (S : FnScope N ps scope)
    (len : ∀ vs H Q E, sp vs H Q E → vs.length = ps.length)
    (hbody : ∀ (A : Around) (outer : List Env) (s : Shared) (H : Hp) (vs : List V) (Q : VK) (E : XK), Rm k (A.deeper (envOfC qual scope s.heap.objs.size f cdv)) → sp vs H Q E →
      ∃ t, PSs (cxOf (CX P w) P w K mg base N qual scope f cdv A outer s H E) body t ∧ t { nx := fun _ H' => Q .non H', rt := Q } (start N vs) H) :
    FnG P w K mg base (k + 1) f (PySem.W.fnOf name qual params body scope dV kV doc pm an cdv ct) ps sp := by
  refine ⟨len, fun A outer s H args us vs Q E hr e0 hb r hsp => ?_⟩
  have hl := len _ _ _ _ hsp
  have KX : K.In s.heap := e0.mod.kin.keeps fun b o e => (e0.bs b o e).1
  have lim : s.heap.NoLimit := e0.mod.nolimit.keeps fun b o e => (e0.bs b o e).1
  have hkind : ∀ y ∈ ps.zip us, scope.names.lookup y.1 = some .local ∨ (scope.names.lookup y.1 = some .cell ∧ ((cellsFrom (s.heap.objs.size + 1) scope.names []).lookup y.1).isSome = true) := fun ⟨n, v⟩ hy => by
    rcases S.par n (List.of_mem_zip hy).1 with q | q
    · exact .inl q
    · exact .inr ⟨q, PySem.W.cellsFrom_some _ _ _ (.inl q)⟩
  refine codeAny_call_function hr.room.depth (KX _ _ lk) rfl S.co S.gen rfl (PySem.W.codeRec_of KX hcd) (hb _ _ _ _ ?_)
  refine wpAny_newFunctionEnv_cells S.kind hkind fun env he s1 x => ?_
  subst he
  refine ⟨lim.keeps x.toInCall.keep, codeAny_func ?_⟩
  obtain ⟨t, ht, hq⟩ := hbody A outer s H vs Q E ⟨hr.room.deeper _, hr.gd⟩ hsp
  have I : L2.Inv (cxOf (CX P w) P w K mg base N qual scope f cdv A outer s H E) [] (start N vs) H s1 := inv_start S hr.room.hd e0 hl r x
  refine wpAny_mono (ht.run [] s1 (start N vs) H _ I hq) (fun fl s' hs => ?_) fun e s' hs => hs
  have fin : ∀ {σ' : L2.St} {H' : Hp} {v : V} {u : Value}, L2.Inv (cxOf (CX P w) P w K mg base N qual scope f cdv A outer s H E) [] σ' H' s' → RelV v u → Q v H' → CE outer P w H s Q u s' :=
    fun {σ' H' v u} J rv q => ⟨v, H', J.os, J.bare, J.base, J.hok, rv, q⟩
  cases fl with
  | ret u =>
    obtain ⟨v, σ', H', J, rv, q⟩ := hs
    exact fin J rv q
  | next =>
    obtain ⟨σ', H', J, q⟩ := hs
    exact fin (v := V.non) (u := Value.none) J rfl q
  | brk =>
    obtain ⟨_, _, _, q⟩ := hs
    exact False.elim q
  | cont =>
    obtain ⟨_, _, _, q⟩ := hs
    exact False.elim q

/-- the wish of a def's body -/
def wE (K : PySem.W.Frag) (mg : Str → Option Value) (E : XK) : Wi := fun e _ g' H' _ => ∀ cls d, ErOk K mg g' e cls d → E cls d H'
/-- a def's function, of its body's -/
def fnF (n m : Nat) (body : En → Store → ResS) : List D → Store → Res D := fun ds st => if ds.length = n then (match body (ds.map Slot.vl ++ List.replicate m Slot.un) st with
  | .nx _ st => .ok .non st
  | .rt d st => .ok d st
  | .er e _ st => .er e st
  | _ => .stuck) else .stuck
theorem env_start {K : PySem.W.Frag} {mg : Str → Option Value} {g : G} {H : Hp} {m : Nat} : ∀ {ds : List D} {vs : List V}, RepL K mg g ds vs → EnvOk K mg g H (ds.map Slot.vl ++ List.replicate m Slot.un) (vs.map some ++ List.replicate m none) []
  | _, _, .nil => by
    induction m with
    | zero => exact .nil
    | succ m ih => exact EnvOk.cons (l := []) (.un none) ih
  | _, _, .cons r t => EnvOk.cons (l := []) (.vl r) (env_start t)
theorem osOk_nil {g : G} {H : Hp} : OsOk g H [] := ⟨List.nodup_nil, fun _ h => (nomatch h), fun _ h => (nomatch h), fun _ h => (nomatch h)⟩
theorem spE_len {K : PySem.W.Frag} {mg : Str → Option Value} {n : Nat} {F : List D → Store → Res D} {vs : List V} {H : Hp} {Q : VK} {E : XK} (h : spE K mg n F vs H Q E) : vs.length = n := by
  obtain ⟨g, ds, st, hl, r, _⟩ := h
  rw [← r.length]; exact hl
theorem takes_def {CXx : CXT} {P : Program} {w : World} {K : PySem.W.Frag} {mg : Str → Option Value} {base : Heap} {N : List Str} {qual : Str} {scope : Scope} {f : Addr} {cd : Value} {A : Around} {outer : List Env} {s : Shared} {H : Hp} {E : XK} :
    Takes (cxOf (CX P w) P w K mg base N qual scope f cd A outer s H E) (wOf K mg (wE K mg E)) :=
  (takes_of (E := E) rfl rfl rfl rfl).imp fun cls d σ H' ⟨e, st', g', S, eo, w⟩ => w cls d eo

section
variable {P : Program} {w : World} {K : PySem.W.Frag} {mg : Str → Option Value} {base : Heap}
/-- THE RULE for a def -/
theorem fn_ok {x qual : Str} {st : Stmt} {f : Addr} {fd : FuncData} {N ps : List Str} {k m : Nat} {body : En → Store → ResS} (F : Fun K x qual st f fd) (S : FnScope N ps (defScope st)) (hN : N.length = ps.length + m)
    (hbody : ∀ (cdv : Value) (A : Around) (outer : List Env) (s : Shared) (H : Hp) (E : XK), Rm k (A.deeper (envOfC qual (defScope st) s.heap.objs.size f cdv)) →
      Takes (cxOf (CX P w) P w K mg base N qual (defScope st) f cdv A outer s H E) (wOf K mg (wE K mg E)) →
      STs (cxOf (CX P w) P w K mg base N qual (defScope st) f cdv A outer s H E) (wE K mg E) (defBody st) body) : FnG P w K mg base (k + 1) f fd ps (spE K mg ps.length (fnF ps.length m body)) := by
  obtain ⟨oc, od, kV, doc, pm, an, cdv, ct, osl, rfl, lk, hcd⟩ := F.ex
  refine fnG_of lk hcd S (fun vs H Q E h => spE_len h) fun A outer s H vs Q E hr hsp => ?_
  refine ⟨_, hbody cdv A outer s H E hr (takes_def (CXx := CX P w)), ?_⟩
  obtain ⟨g, ds, st0, hl, r, hS, h⟩ := hsp
  have hm : N.length - vs.length = m := by rw [← r.length, hl]; omega
  refine ⟨g, ds.map Slot.vl ++ List.replicate m Slot.un, st0, [], by unfold L2.start; rw [hm]; exact env_start r, osOk_nil, hS, ?_⟩
  unfold fnF at h
  rw [if_pos hl] at h
  revert h
  show (match (match body (ds.map Slot.vl ++ List.replicate m Slot.un) st0 with | .nx _ st => .ok .non st | .rt d st => .ok d st | .er e _ st => .er e st | _ => .stuck : Res D) with
    | .ok d st' => _
    | .er e st' => _
    | .stuck => False) → PostSt K mg _ g H [] _ (body (ds.map Slot.vl ++ List.replicate m Slot.un) st0)
  generalize body (ds.map Slot.vl ++ List.replicate m Slot.un) st0 = q
  intro h
  cases q with
  | nx env st1 => exact fun σ' g' H' os' s1 e1 o1 S1 => h .non g' H' s1.drop .non S1
  | rt d st1 => exact fun v g' H' s1 r1 S1 => h v g' H' s1 r1 S1
  | er e env st1 => exact fun σ' g' H' os' s1 e1 o1 S1 cls d eo => h cls d g' H' s1.drop S1 eo
  | br _ _ => exact (h : False).elim
  | ct _ _ => exact (h : False).elim
  | stuck => exact (h : False).elim
end

section
variable {X : Cx} {W : Wi} {k : Nat} {f : Addr} {fd : FuncData} {ps : List Str} {F : List D → Store → Res D} {x : Str} {p pos : Pos} {e : Expr} {es : List Expr} {fa : En → Store → Res (List D)}
/-- the callee runs -/
theorem run_fnG {pins : List (Addr × Obj)} {σ : L2.St} {H : Hp} {s : Shared} {Q : VK} {us : List Value} {vs : List V} {args : Args} {g : G} {ds : List D} {st : Store} (FG : FnG X.prog X.w X.K X.mg X.base k f fd ps (spE X.K X.mg ps.length F)) (hr : Rm k X.A) (tk : Takes X (wOf X.K X.mg W))
    (hb : BindsTo s fd args (ps.zip us)) (I : L2.Inv X pins σ H s) (r : Vals vs us) (hl : ds.length = ps.length) (rd : RepL X.K X.mg g ds vs) (S : SOk X.K X.mg g st H) (h : Post X.K X.mg (Rep X.K X.mg) W g H σ (F ds st) Q) :
    codeAny (model X.prog X.w) X.A (.call (.ref f) args) (fun r s' => match r with | .ok (.ret u) => EP X pins σ Q u s' | .ok _ => False | .error e => X.xe e s') s := by
  refine codeAny_mono (FG.run X.A X.stack s H args us vs Q (fun cls d H' => ∃ e st' g', SOk X.K X.mg g' st' H' ∧ ErOk X.K X.mg g' e cls d ∧ W e st' g' H' σ) hr I.env0 hb r ⟨g, ds, st, hl, rd, S, ?_⟩) fun r s' hq => ?_
  · revert h
    generalize F ds st = q
    intro h
    cases q with
    | ok d st' => exact h
    | er e st' => exact fun cls d g' H' s1 S1 eo => ⟨e, st', g', S1, eo, h g' H' s1 S1⟩
    | stuck => exact h
  · cases r with
    | error e => exact tk _ _ (XE.of_call I (fun cls d H' hE => hE) hq)
    | ok fl =>
      cases fl with
      | ret u => exact I.after hq
      | next => exact False.elim hq
      | brk => exact False.elim hq
      | cont => exact False.elim hq
def fnN (n : Nat) (F : List D → Store → Res D) : List D → Store → Res D := fun ds st => if ds.length = n then F ds st else .stuck
/-- f(e, ..) -/
theorem e_call (FG : FnG X.prog X.w X.K X.mg X.base k f fd ps (spE X.K X.mg ps.length F)) (hr : Rm k X.A) (tk : Takes X (wOf X.K X.mg W)) (hg : Gl X x) (hm : X.mg x = some (.ref f)) (hk : PySem.W.keepIn X.K (.ref f) = true) (hb : Binds X.K fd ps [])
    (ha : AE X W (e :: es) fa) (hdb : (x == ("__debug__" : Str)) = false := by decide) (he : starEach (e :: es) X.env = (false, eval e X.env) :: starEach es X.env := by rfl) (hpl : (backTo pos (starEach es X.env)).any (·.1) = false := by rfl) :
    EE X W (.Call (.Name x p) (e :: es) [] pos) (vA (fnN ps.length F) fa) := by
  refine ⟨fun pins s σ H Q I h => ?_⟩
  obtain ⟨g, env, st, os, hv, ho, hS, h⟩ := h
  refine wpAny_Call_Name_kw (ld_glob I hg hm ?_ hdb)
  refine PySem.W.callWith_K (h₀ := X.base) I.ok.mod.kin hk (thn (ha.run pos pins s σ H _ I ⟨g, env, st, os, hv, ho, hS, Post.bind h⟩) fun us s1 ⟨vs, H1, I1, r, q⟩ => ⟨I1.kIn, ?_⟩) he hpl
  obtain ⟨g1, ds, st1, s1', rd, S1, h1⟩ := q
  unfold fnN at h1
  split at h1
  · next hl =>
    have hb' := hb s1 us I1.kIn (by rw [List.append_nil, ← r.length, ← rd.length]; exact hl)
    rw [List.append_nil] at hb'
    refine wpAny_call (codeAny_mono (run_fnG FG hr tk hb' I1 r hl rd S1 h1) fun r s' hq => ?_)
    cases r with
    | error e => exact hq
    | ok fl =>
      cases fl with
      | ret u => exact hq
      | next => exact False.elim hq
      | brk => exact False.elim hq
      | cont => exact False.elim hq
  · exact h1.elim
theorem e_call0 (FG : FnG X.prog X.w X.K X.mg X.base k f fd ps (spE X.K X.mg ps.length F)) (hr : Rm k X.A) (tk : Takes X (wOf X.K X.mg W)) (hg : Gl X x) (hm : X.mg x = some (.ref f)) (hk : PySem.W.keepIn X.K (.ref f) = true) (hb : Binds X.K fd ps [])
    (hdb : (x == ("__debug__" : Str)) = false := by decide) :
    EE X W (.Call (.Name x p) [] [] pos) (vA (fnN ps.length F) vNil) := by
  refine ⟨fun pins s σ H Q I h => ?_⟩
  obtain ⟨g, env, st, os, hv, ho, hS, h⟩ := h
  refine wpAny_Call_Name_kw (ld_glob I hg hm ?_ hdb)
  have h1 : Post X.K X.mg (Rep X.K X.mg) W g H σ (fnN ps.length F [] st) Q := h
  unfold fnN at h1
  split at h1
  · next hl =>
    have hb' := hb s [] I.kIn (by simpa using hl)
    rw [List.append_nil] at hb'
    refine PySem.W.callWith_K0 I.kIn hk (wpAny_call (codeAny_mono (run_fnG (us := []) (vs := []) FG hr tk hb' I .nil hl .nil hS h1) fun r s' hq => ?_))
    cases r with
    | error e => exact hq
    | ok fl =>
      cases fl with
      | ret u => exact hq
      | next => exact False.elim hq
      | brk => exact False.elim hq
      | cont => exact False.elim hq
  · exact h1.elim
end
end EV

set_option Elab.async false
set_option linter.all false
set_option autoImplicit false
set_option maxRecDepth 100000
set_option maxHeartbeats 400000
/-! operations on data -/
namespace EV
open PySem PySem.Spec PyProof.Rows L2

/-! ### data of PyData's kind -/
mutual
def D.pd : D → Option PyData
  | .non => some .none
  | .bl b => some (.bool b)
  | .int i => some (.int i)
  | .str x => some (.str x)
  | .tup xs => (D.pds xs).map .tuple
  | .lst xs => (D.pds xs).map .list
  | _ => none
def D.pds : List D → Option (List PyData)
  | [] => some []
  | x :: xs => match D.pd x, D.pds xs with
    | some a, some b => some (a :: b)
    | _, _ => none
end
section
variable {K : PySem.W.Frag} {mg : Str → Option Value}
theorem rep_dp {g : G} {st : Store} {H : Hp} (S : SOk K mg g st H) : (∀ {d : D} {v : V}, Rep K mg g d v → ∀ p, d.pd = some p → Dp K H v p) ∧ ∀ {ds : List D} {vs : List V}, RepL K mg g ds vs → ∀ ps, D.pds ds = some ps → DpAll K H vs ps := by
  constructor
  · intro d v r
    refine Rep.rec (motive_1 := fun d v _ => ∀ p, d.pd = some p → Dp K H v p) (motive_2 := fun ds vs _ => ∀ ps, D.pds ds = some ps → DpAll K H vs ps) (motive_3 := fun _ _ _ => True) (motive_4 := fun _ _ _ => True) ?_ ?_ ?_ ?_ ?_ ?_ ?_ ?_ ?_ ?_ ?_ ?_ ?_ ?_ ?_ ?_ ?_ ?_ ?_ ?_ ?_ r
    · intro p e; cases e; exact .non
    · intro b p e; cases e; exact .bl b
    · intro i p e; cases e; exact .int i
    · intro x p e; cases e; exact .str x
    · intro a vs ds h r ih p e
      unfold D.pd at e
      cases q : D.pds ds with
      | none => rw [q] at e; cases e
      | some ps => rw [q] at e; cases e; exact .tup (S.sqT h) (ih _ q)
    · intro a vs ds h r ih p e
      unfold D.pd at e
      cases q : D.pds ds with
      | none => rw [q] at e; cases e
      | some ps => rw [q] at e; cases e; exact .lst (SqL.of (S.kp _ _ h)) (ih _ q)
    · intro a xs h p e; cases e
    · intro n a h p e; cases e
    · intro x a h k p e; cases e
    · intro n p e; cases e
    · intro a vs ds h r ih p e; cases e
    · intro a ob o kvs h r ih p e; cases e
    · intro C c a dd fs zs m h hd r ih p e; cases e
    · intro ps e; cases e; exact .nil
    · intro d ds v vs r t ih iht ps e
      unfold D.pds at e
      split at e
      · next a b ea eb => cases e; exact .cons (ih _ ea) (iht _ eb)
      · cases e
    all_goals (intros; trivial)
  · intro ds vs r
    refine RepL.rec (motive_1 := fun d v _ => ∀ p, d.pd = some p → Dp K H v p) (motive_2 := fun ds vs _ => ∀ ps, D.pds ds = some ps → DpAll K H vs ps) (motive_3 := fun _ _ _ => True) (motive_4 := fun _ _ _ => True) ?_ ?_ ?_ ?_ ?_ ?_ ?_ ?_ ?_ ?_ ?_ ?_ ?_ ?_ ?_ ?_ ?_ ?_ ?_ ?_ ?_ r
    · intro p e; cases e; exact .non
    · intro b p e; cases e; exact .bl b
    · intro i p e; cases e; exact .int i
    · intro x p e; cases e; exact .str x
    · intro a vs ds h r ih p e
      unfold D.pd at e
      cases q : D.pds ds with
      | none => rw [q] at e; cases e
      | some ps => rw [q] at e; cases e; exact .tup (S.sqT h) (ih _ q)
    · intro a vs ds h r ih p e
      unfold D.pd at e
      cases q : D.pds ds with
      | none => rw [q] at e; cases e
      | some ps => rw [q] at e; cases e; exact .lst (SqL.of (S.kp _ _ h)) (ih _ q)
    · intro a xs h p e; cases e
    · intro n a h p e; cases e
    · intro x a h k p e; cases e
    · intro n p e; cases e
    · intro a vs ds h r ih p e; cases e
    · intro a ob o kvs h r ih p e; cases e
    · intro C c a dd fs zs m h hd r ih p e; cases e
    · intro ps e; cases e; exact .nil
    · intro d ds v vs r t ih iht ps e
      unfold D.pds at e
      split at e
      · next a b ea eb => cases e; exact .cons (ih _ ea) (iht _ eb)
      · cases e
    all_goals (intros; trivial)
theorem Rep.dp {g : G} {st : Store} {H : Hp} (S : SOk K mg g st H) {d : D} {v : V} {p : PyData} (r : Rep K mg g d v) (e : d.pd = some p) : Dp K H v p := (rep_dp S).1 r p e
theorem RepL.dp {g : G} {st : Store} {H : Hp} (S : SOk K mg g st H) {ds : List D} {vs : List V} {ps : List PyData} (r : RepL K mg g ds vs) (e : D.pds ds = some ps) : DpAll K H vs ps := (rep_dp S).2 r ps e
end

/-! ### objects of the store that are lists, seen through -/
mutual
def rsvW (f : Nat → Option D) : D → Option D
  | .tup xs => (rsvWs f xs).map .tup
  | .lst xs => (rsvWs f xs).map .lst
  | .ref m => f m
  | d => some d
def rsvWs (f : Nat → Option D) : List D → Option (List D)
  | [] => some []
  | x :: xs => match rsvW f x, rsvWs f xs with
    | some a, some b => some (a :: b)
    | _, _ => none
end
def rsv (st : Store) : Nat → D → Option D
  | 0, d => rsvW (fun _ => none) d
  | n + 1, d => rsvW (fun m => match st[m]? with | some (.cell (.ol ds)) => rsv st n (.lst ds) | _ => none) d
def pdR (st : Store) (d : D) : Option PyData := match d.pd with
  | some p => some p
  | none => (rsv st 3 d).bind D.pd
theorem pdR_of {st : Store} {d : D} {p : PyData} (e : d.pd = some p) : pdR st d = some p := by unfold pdR; rw [e]
section
variable {K : PySem.W.Frag} {mg : Str → Option Value}
theorem rsvW_dp {g : G} {st : Store} {H : Hp} (S : SOk K mg g st H) {f : Nat → Option D} (hf : ∀ (m : Nat) (a : Addr), g.rs[m]? = some a → ∀ d', f m = some d' → ∀ p, d'.pd = some p → Dp K H (.ref a) p) :
    (∀ {d : D} {v : V}, Rep K mg g d v → ∀ d', rsvW f d = some d' → ∀ p, d'.pd = some p → Dp K H v p) ∧ ∀ {ds : List D} {vs : List V}, RepL K mg g ds vs → ∀ ds', rsvWs f ds = some ds' → ∀ ps, D.pds ds' = some ps → DpAll K H vs ps := by
  have key : (∀ {ds : List D} {vs : List V}, RepL K mg g ds vs → ∀ ds', rsvWs f ds = some ds' → ∀ ps, D.pds ds' = some ps → DpAll K H vs ps) := by
    intro ds vs r
    refine RepL.rec (motive_1 := fun d v _ => ∀ d', rsvW f d = some d' → ∀ p, d'.pd = some p → Dp K H v p) (motive_2 := fun ds vs _ => ∀ ds', rsvWs f ds = some ds' → ∀ ps, D.pds ds' = some ps → DpAll K H vs ps) (motive_3 := fun _ _ _ => True) (motive_4 := fun _ _ _ => True) ?_ ?_ ?_ ?_ ?_ ?_ ?_ ?_ ?_ ?_ ?_ ?_ ?_ ?_ ?_ ?_ ?_ ?_ ?_ ?_ ?_ r
    · intro d' h p e; unfold rsvW at h; cases h; cases e; exact .non
    · intro b d' h p e; unfold rsvW at h; cases h; cases e; exact .bl b
    · intro i d' h p e; unfold rsvW at h; cases h; cases e; exact .int i
    · intro x d' h p e; unfold rsvW at h; cases h; cases e; exact .str x
    · intro a vs ds h r ih d' h' p e
      unfold rsvW at h'
      cases hq : rsvWs f ds with
      | none => rw [hq] at h'; cases h'
      | some ds' =>
        rw [hq] at h'; cases h'
        unfold D.pd at e
        cases q : D.pds ds' with
        | none => rw [q] at e; cases e
        | some ps => rw [q] at e; cases e; exact .tup (S.sqT h) (ih _ hq _ q)
    · intro a vs ds h r ih d' h' p e
      unfold rsvW at h'
      cases hq : rsvWs f ds with
      | none => rw [hq] at h'; cases h'
      | some ds' =>
        rw [hq] at h'; cases h'
        unfold D.pd at e
        cases q : D.pds ds' with
        | none => rw [q] at e; cases e
        | some ps => rw [q] at e; cases e; exact .lst (SqL.of (S.kp _ _ h)) (ih _ hq _ q)
    · intro a xs h d' h' p e; unfold rsvW at h'; cases h'; cases e
    · intro n a h d' h' p e; unfold rsvW at h'; exact hf n a h d' h' p e
    · intro x a h k d' h' p e; unfold rsvW at h'; cases h'; cases e
    · intro n d' h' p e; unfold rsvW at h'; cases h'; cases e
    · intro a vs ds h r ih d' h' p e; unfold rsvW at h'; cases h'; cases e
    · intro a ob o kvs h r ih d' h' p e; unfold rsvW at h'; cases h'; cases e
    · intro C c a dd fs zs m h hd r ih d' h' p e; unfold rsvW at h'; cases h'; cases e
    · intro d' h ps e; unfold rsvWs at h; cases h; cases e; exact .nil
    · intro d ds v vs r t ih iht d' h ps e
      unfold rsvWs at h
      split at h
      · next a b ha hb =>
        cases h
        unfold D.pds at e
        split at e
        · next a b ea eb => cases e; exact .cons (ih _ ha _ ea) (iht _ hb _ eb)
        · cases e
      · cases h
    all_goals (intros; trivial)
  refine ⟨fun {d v} r d' h p e => ?_, key⟩
  have := key (.cons r .nil) [d'] (by unfold rsvWs; rw [h]; rfl) [p] (by unfold D.pds; rw [e]; rfl)
  cases this with
  | cons a _ => exact a
theorem rsv_dp {g : G} {st : Store} {H : Hp} (S : SOk K mg g st H) : ∀ (n : Nat) {d : D} {v : V}, Rep K mg g d v → ∀ d', rsv st n d = some d' → ∀ p, d'.pd = some p → Dp K H v p
  | 0, d, v, r, d', h, p, e => by
    unfold rsv at h
    exact (rsvW_dp S (fun _ _ _ _ h => by cases h)).1 r d' h p e
  | n + 1, d, v, r, d', h, p, e => by
    unfold rsv at h
    refine (rsvW_dp S ?_).1 r d' h p e
    intro m a hm d2 h2 p2 e2
    split at h2
    · next ds hs =>
      obtain ⟨q, h1, h3⟩ := S.ob.get hs
      cases h3 with
      | @cell s b so =>
        have z : b = a := by
          unfold G.rs at hm
          rw [List.getElem?_map, h1] at hm
          exact Option.some.inj hm
        subst z
        cases so with
        | @ol _ _ vs hH rl =>
          have sub : ∀ (f : Nat → Option D) (ds' : List D), rsvWs f ds = some ds' → (∀ (m : Nat) (a : Addr), g.rs[m]? = some a → ∀ d', f m = some d' → ∀ p, d'.pd = some p → Dp K H (.ref a) p) → d2 = .lst ds' → Dp K H (.ref b) p2 := by
            intro f ds' h4 hf e4
            subst e4
            unfold D.pd at e2
            cases q : D.pds ds' with
            | none => rw [q] at e2; cases e2
            | some ps => rw [q] at e2; cases e2; exact .lst (SqL.of hH) ((rsvW_dp S hf).2 rl _ h4 _ q)
          cases n with
          | zero =>
            unfold rsv rsvW at h2
            cases h4 : rsvWs (fun _ => none) ds with
            | none => rw [h4] at h2; cases h2
            | some ds' => rw [h4] at h2; cases h2; exact sub _ _ h4 (fun _ _ _ _ h => by cases h) rfl
          | succ n =>
            unfold rsv rsvW at h2
            cases h4 : rsvWs (fun m => match st[m]? with | some (.cell (.ol ds)) => rsv st n (.lst ds) | _ => none) ds with
            | none => rw [h4] at h2; cases h2
            | some ds' =>
              rw [h4] at h2; cases h2
              refine sub _ _ h4 (fun m a hm d5 h5 p5 e5 => rsv_dp S (n + 1) (d := .ref m) (v := .ref a) (.ref hm) d5 ?_ p5 e5) rfl
              unfold rsv rsvW
              exact h5
    · cases h2
  termination_by n => n
theorem pdR_dp {g : G} {st : Store} {H : Hp} (S : SOk K mg g st H) {d : D} {v : V} {p : PyData} (r : Rep K mg g d v) (e : pdR st d = some p) : Dp K H v p := by
  unfold pdR at e
  split at e
  · next q hq => cases e; exact r.dp S hq
  · cases h : rsv st 3 d with
    | none => rw [h] at e; cases e
    | some d' => rw [h] at e; exact rsv_dp S 3 r d' h p e
end

/-! ### numbers -/
def addD : D → D → Store → Res D := fun x y st => match x, y with
  | .int i, .int j => .ok (.int (i + j)) st
  | .str a, .str b => if a.length + b.length ≤ sizeLine then .ok (.str (a ++ b)) st else .stuck
  | .lst xs, .lst ys => if xs.length + ys.length ≤ sizeLine then .ok (.lst (xs ++ ys)) st else .stuck
  | .tup xs, .tup ys => if xs.length + ys.length ≤ sizeLine then .ok (.tup (xs ++ ys)) st else .stuck
  | _, _ => .stuck
def addS : D → D → Store → Res Slot := fun x y st => match x, y with
  | .lst xs, .lst ys => if xs.length + ys.length ≤ sizeLine then .ok (.ol (xs ++ ys)) st else .stuck
  | _, _ => .stuck
def intD (c : Int → Int → Bool) (f : Int → Int → Int) : D → D → Store → Res D := fun x y st => match x, y with
  | .int i, .int j => if c i j = true then .ok (.int (f i j)) st else .stuck
  | _, _ => .stuck
def cmpI (f : Int → Int → Bool) : D → D → Store → Res D := fun x y st => match x, y with
  | .int i, .int j => .ok (.bl (f i j)) st
  | _, _ => .stuck
def subD := intD (fun _ _ => true) fun i j => i - j
def mulD := intD (fun i j => decide (i.natAbs.log2 + j.natAbs.log2 < 1000000)) fun i j => i * j
def modD := intD (fun _ j => decide (0 < j)) fun i j => i % j
def fdivD := intD (fun _ j => decide (0 < j) && decide (j.natAbs.log2 < 9000)) fun i j => i / j
def powD := intD (fun i j => decide (0 ≤ j) && decide (((Builtin.Int.intBits i : Nat) : Int) * j ≤ 2 ^ 27)) fun i j => i ^ j.toNat
def negD : D → Store → Res D := fun x st => match x with
  | .int i => .ok (.int (-i)) st
  | _ => .stuck
def ltD : D → D → Store → Res D := fun x y st => match x, y with
  | .int i, .int j => .ok (.bl (decide (i < j))) st
  | _, _ => .stuck
def leD := cmpI fun i j => decide (i ≤ j)
def gtD := cmpI fun i j => decide (j < i)
def geD := cmpI fun i j => decide (j ≤ i)
/-- == -/
def eqB (st : Store) : D → D → Option Bool
  | .int i, .int j => some (decide (i = j))
  | .str a, .str b => some (decide (a = b))
  | .bl a, .bl b => some (decide (a = b))
  | .non, .non => some true
  | .int _, .str _ => some false
  | .str _, .int _ => some false
  | .bl _, .str _ => some false
  | .str _, .bl _ => some false
  | .int _, .non => some false
  | .non, .int _ => some false
  | .str _, .non => some false
  | .non, .str _ => some false
  | x, y => match pdR st x, pdR st y with
    | some a, some b => if SeqAt.shaped a = true ∧ SeqAt.shaped b = true then some (PyData.eqv a b) else none
    | _, _ => none
def eqD : D → D → Store → Res D := fun x y st => match eqB st x y with
  | some b => .ok (.bl b) st
  | none => .stuck
def neD : D → D → Store → Res D := fun x y st => match eqB st x y with
  | some b => .ok (.bl (!b)) st
  | none => .stuck
/-- is, is not -/
def isB : D → D → Option Bool
  | .bl a, .bl b => some (decide (a = b))
  | x, .non => some (match x with | .non => true | _ => false)
  | _, _ => none
def isD : D → D → Store → Res D := fun x y st => match isB x y with
  | some b => .ok (.bl b) st
  | none => .stuck
def isntD : D → D → Store → Res D := fun x y st => match isB x y with
  | some b => .ok (.bl (!b)) st
  | none => .stuck

section
variable {X : Cx}
theorem o_int {f : Value → Value → Sem Value} {C : Int → Int → Prop} {c : Int → Int → Bool} {h : Int → Int → Int} (ho : OpR X f (rI C fun i j => .int (h i j))) (hc : ∀ i j, c i j = true → C i j) : Op2 X f (intD c h) :=
  .of ho fun W σ H g st x y vx vy Q S rx ry q => by
    cases rx with
    | int i => cases ry with
      | int j =>
        have q' : Post X.K X.mg (Rep X.K X.mg) W g H σ (if c i j = true then .ok (.int (h i j)) st else .stuck) Q := q
        split at q'
        · next e => exact ⟨i, j, rfl, rfl, hc i j e, q'.here (.int _) S⟩
        · exact q'.elim
      | _ => exact (q : False).elim
    | _ => exact (q : False).elim
theorem o_cmpI {f : Value → Value → Sem Value} {h : Int → Int → Bool} (ho : OpR X f (rI0 fun i j => .bl (h i j))) : Op2 X f (cmpI h) :=
  .of ho fun W σ H g st x y vx vy Q S rx ry q => by
    cases rx with
    | int i => cases ry with
      | int j => exact ⟨i, j, rfl, rfl, Post.here (R := Rep X.K X.mg) q (.bl _) S⟩
      | _ => exact (q : False).elim
    | _ => exact (q : False).elim
theorem o_sub : Op2 X (binaryOp .Sub) subD := o_int (C := fun _ _ => True) (fun pins s σ H x y v u Q I rx ry ⟨i, j, e1, e2, _, q⟩ => op_sub pins s σ H x y v u Q I rx ry ⟨i, j, e1, e2, q⟩) fun _ _ _ => trivial
theorem o_mul : Op2 X (binaryOp .Mult) mulD := o_int op_mulW fun i j h => (show i.natAbs.log2 + j.natAbs.log2 < 1000000 from of_decide_eq_true h)
theorem o_mod : Op2 X (binaryOp .Mod) modD := o_int op_mod fun i j h => of_decide_eq_true h
theorem o_fdiv : Op2 X (binaryOp .FloorDiv) fdivD := o_int op_fdivW fun i j h => by simpa [CDivW] using h
theorem o_pow : Op2 X (binaryOp .Pow) powD := o_int (C := fun i j => 0 ≤ j ∧ ((Builtin.Int.intBits i : Nat) : Int) * j ≤ 2 ^ 27) (opI fun _ _ _ _ _ _ _ hc q => PyProof.Rows.pow_int hc.1 hc.2 q) fun i j h => by simpa using h
theorem o_le : Op2 X (compareOp .LtE) leD := o_cmpI op_le
theorem o_gt : Op2 X (compareOp .Gt) gtD := o_cmpI op_gt
theorem o_ge : Op2 X (compareOp .GtE) geD := o_cmpI op_ge
theorem o_lt : Op2 X (compareOp .Lt) ltD :=
  .of op_lt fun W σ H g st x y vx vy Q S rx ry q => by
    cases rx with
    | int i => cases ry with
      | int j => exact ⟨i, j, rfl, rfl, Post.here (R := Rep X.K X.mg) q (.bl _) S⟩
      | _ => exact (q : False).elim
    | _ => exact (q : False).elim
theorem o_neg : Op1 X (unaryOp .USub) negD := fun W pins s σ H g st x vx u Q I S rx ru q => by
  cases rx with
  | int i => exact un_neg pins s σ H _ u Q I ru ⟨i, rfl, Post.here (R := Rep X.K X.mg) q (.int _) S⟩
  | _ => exact (q : False).elim
theorem add_lst {pins : List (Addr × Obj)} {s : Shared} {σ : L2.St} {H : Hp} {g : G} {st : Store} {xs ys : List D} {vx vy : V} {u w : Value} {Q : VK} (I : L2.Inv X pins σ H s) (S : SOk X.K X.mg g st H) (rx : Rep X.K X.mg g (.lst xs) vx) (ry : Rep X.K X.mg g (.lst ys) vy) (ru : RelV vx u) (rw : RelV vy w)
    (hz : xs.length + ys.length ≤ sizeLine) (q : ∀ vs p, RepL X.K X.mg g (xs ++ ys) vs → H p = none → Q (.ref p) (upd H p (.lst vs))) : wpAny (model X.prog X.w) X.A (binaryOp .Add u w) (EP X pins σ Q) X.xe s := by
  cases rx with
  | lst hx rx => cases ry with
    | lst hy ry => exact op_cat pins s σ H _ _ u w Q I ru rw ⟨_, _, _, _, rfl, rfl, S.kp _ _ hx, S.kp _ _ hy, by rw [← rx.length, ← ry.length]; exact hz, fun p hp => q _ p (rx.append ry) hp⟩
theorem o_add : Op2 X (binaryOp .Add) addD := fun W pins s σ H g st x y vx vy u w Q I S rx ry ru rw q => by
  cases x with
  | int i =>
    cases y with
    | int j => cases rx; cases ry; exact op_add pins s σ H _ _ u w Q I ru rw ⟨i, j, rfl, rfl, Post.here (R := Rep X.K X.mg) q (.int _) S⟩
    | _ => exact (q : False).elim
  | str a =>
    cases y with
    | str b =>
      have q' : Post X.K X.mg (Rep X.K X.mg) W g H σ (if a.length + b.length ≤ sizeLine then .ok (.str (a ++ b)) st else .stuck) Q := q
      split at q'
      · next e => cases rx; cases ry; exact op_add_str pins s σ H _ _ u w Q I ru rw ⟨a, b, rfl, rfl, e, q'.here (.str _) S⟩
      · exact q'.elim
    | _ => exact (q : False).elim
  | lst xs =>
    cases y with
    | lst ys =>
      have q' : Post X.K X.mg (Rep X.K X.mg) W g H σ (if xs.length + ys.length ≤ sizeLine then .ok (.lst (xs ++ ys)) st else .stuck) Q := q
      split at q'
      · next e => exact add_lst I S rx ry ru rw e fun vs p r hp => q'.newLst S r hp
      · exact q'.elim
    | _ => exact (q : False).elim
  | tup xs =>
    cases y with
    | tup ys =>
      have q' : Post X.K X.mg (Rep X.K X.mg) W g H σ (if xs.length + ys.length ≤ sizeLine then .ok (.tup (xs ++ ys)) st else .stuck) Q := q
      split at q'
      · next e =>
        cases rx with
        | tup hx rx' => cases ry with
          | tup hy ry' =>
            refine op_catA pins s σ H _ _ u w Q I ru rw ⟨_, _, _, _, rfl, rfl, S.sqT hx, S.sqT hy, by rw [← rx'.length, ← ry'.length]; exact e, fun z => ?_, fun _ z => ?_, fun _ _ p hp => q'.newTup S (rx'.append ry') hp⟩
            · subst z
              cases rx'
              exact q'.here (.tup hy ry') S
            · subst z
              cases ry'
              rw [List.append_nil] at q'
              exact q'.here (.tup hx rx') S
      · exact q'.elim
    | _ => exact (q : False).elim
  | _ => exact (q : False).elim
theorem o_addS : Op2S X (binaryOp .Add) addS := fun W pins s σ H g st x y vx vy u w Q I S rx ry ru rw q => by
  cases x with
  | lst xs =>
    cases y with
    | lst ys =>
      have q' : PostS X.K X.mg W g H σ (if xs.length + ys.length ≤ sizeLine then .ok (.ol (xs ++ ys)) st else .stuck) Q := q
      split at q'
      · next e => exact add_lst I S rx ry ru rw e fun vs p r hp => q'.newLst S r hp
      · exact (q' : False).elim
    | _ => exact (q : False).elim
  | _ => exact (q : False).elim
theorem scal_eq {pins : List (Addr × Obj)} {s : Shared} {σ : L2.St} {H : Hp} {x y : V} {u w : Value} {Q : VK} {b : Bool} (I : L2.Inv X pins σ H s) (ru : RelV x u) (rw : RelV y w) (hs : scal x y = true) (hb : decide (x = y) = b) (q : Q (.bl b) H) :
    wpAny (model X.prog X.w) X.A (compareOp .Eq u w) (EP X pins σ Q) X.xe s := op_eq pins s σ H x y u w Q I ru rw ⟨hs, by rw [hb]; exact q⟩
theorem scal_ne {pins : List (Addr × Obj)} {s : Shared} {σ : L2.St} {H : Hp} {x y : V} {u w : Value} {Q : VK} {b : Bool} (I : L2.Inv X pins σ H s) (ru : RelV x u) (rw : RelV y w) (hs : scal x y = true) (hb : decide (x = y) = b) (q : Q (.bl (!b)) H) :
    wpAny (model X.prog X.w) X.A (compareOp .NotEq u w) (EP X pins σ Q) X.xe s := op_ne pins s σ H x y u w Q I ru rw ⟨hs, by rw [hb]; exact q⟩
/-- what == is asked -/
theorem eq_cases {g : G} {st : Store} {H : Hp} (S : SOk X.K X.mg g st H) {x y : D} {vx vy : V} {b : Bool} (rx : Rep X.K X.mg g x vx) (ry : Rep X.K X.mg g y vy) (e : eqB st x y = some b) :
    (scal vx vy = true ∧ decide (vx = vy) = b) ∨ ∃ d d', Dp X.K H vx d ∧ Dp X.K H vy d' ∧ SeqAt.shaped d = true ∧ SeqAt.shaped d' = true ∧ PyData.eqv d d' = b := by
  unfold eqB at e
  split at e
  case h_13 =>
    split at e
    · next a c ea ec =>
      split at e
      · next hs => cases e; exact .inr ⟨a, c, pdR_dp S rx ea, pdR_dp S ry ec, hs.1, hs.2, rfl⟩
      · cases e
    · cases e
  all_goals
    cases rx
    cases ry
    cases e
    exact .inl ⟨rfl, by simp⟩
theorem o_eq {k : Nat} (hr : Rm k X.A) : Op2 X (compareOp .Eq) eqD := fun W pins s σ H g st x y vx vy u w Q I S rx ry ru rw q => by
  unfold eqD at q
  split at q
  · next b e =>
    rcases eq_cases S rx ry e with ⟨h1, h2⟩ | ⟨d, d', h1, h2, h3, h4, h5⟩
    · exact scal_eq I ru rw h1 h2 (q.here (.bl _) S)
    · exact op_eqD hr.room.units pins s σ H _ _ u w Q I ru rw ⟨d, d', h1, h2, h3, h4, by rw [h5]; exact q.here (.bl _) S⟩
  · exact q.elim
theorem o_ne {k : Nat} (hr : Rm k X.A) : Op2 X (compareOp .NotEq) neD := fun W pins s σ H g st x y vx vy u w Q I S rx ry ru rw q => by
  unfold neD at q
  split at q
  · next b e =>
    rcases eq_cases S rx ry e with ⟨h1, h2⟩ | ⟨d, d', h1, h2, h3, h4, h5⟩
    · exact scal_ne I ru rw h1 h2 (q.here (.bl _) S)
    · exact op_neD hr.room.units pins s σ H _ _ u w Q I ru rw ⟨d, d', h1, h2, h3, h4, by rw [h5]; exact q.here (.bl _) S⟩
  · exact q.elim
theorem is_cases {g : G} {x y : D} {vx vy : V} {b : Bool} (rx : Rep X.K X.mg g x vx) (ry : Rep X.K X.mg g y vy) (e : isB x y = some b) :
    (∃ a c, vx = .bl a ∧ vy = .bl c ∧ decide (a = c) = b) ∨ (vy = .non ∧ decide (vx = .non) = b) := by
  unfold isB at e
  split at e
  · cases rx; cases ry; cases e; exact .inl ⟨_, _, rfl, rfl, rfl⟩
  · cases ry
    cases rx <;> (cases e; exact .inr ⟨rfl, by simp⟩)
  · cases e
theorem o_is : Op2 X (compareOp .Is) isD := fun W pins s σ H g st x y vx vy u w Q I S rx ry ru rw q => by
  unfold isD at q
  split at q
  · next b e =>
    rcases is_cases rx ry e with ⟨a, c, rfl, rfl, h⟩ | ⟨rfl, h⟩
    · exact op_is_bl pins s σ H _ _ u w Q I ru rw ⟨a, c, rfl, rfl, by rw [h]; exact q.here (.bl _) S⟩
    · exact op_isN pins s σ H _ _ u w Q I ru rw ⟨rfl, by rw [h]; exact q.here (.bl _) S⟩
  · exact q.elim
theorem o_isnt : Op2 X (compareOp .IsNot) isntD := fun W pins s σ H g st x y vx vy u w Q I S rx ry ru rw q => by
  unfold isntD at q
  split at q
  · next b e =>
    rcases is_cases rx ry e with ⟨a, c, rfl, rfl, h⟩ | ⟨rfl, h⟩
    · exact op_isnot_bl pins s σ H _ _ u w Q I ru rw ⟨a, c, rfl, rfl, by rw [h]; exact q.here (.bl _) S⟩
    · exact op_notN pins s σ H _ _ u w Q I ru rw ⟨rfl, by rw [h]; exact q.here (.bl _) S⟩
  · exact q.elim

/-! ### built-ins -/
def absD : List D → Store → Res D := fun xs st => match xs with
  | [.int i] => .ok (.int (if i < 0 then -i else i)) st
  | _ => .stuck
def max2 : List D → Store → Res D := fun xs st => match xs with
  | [.int i, .int j] => .ok (.int (if j > i then j else i)) st
  | _ => .stuck
def min2 : List D → Store → Res D := fun xs st => match xs with
  | [.int i, .int j] => .ok (.int (if j < i then j else i)) st
  | _ => .stuck
def intOf : List D → Store → Res D := fun xs st => match xs with
  | [.int i] => .ok (.int i) st
  | [.bl b] => .ok (.int (if b then 1 else 0)) st
  | _ => .stuck
def strOf : List D → Store → Res D := fun xs st => match xs with
  | [.int i] => if i.natAbs.log2 < 1920 then .ok (.str (toString i)) st else .stuck
  | _ => .stuck
def lenD : List D → Store → Res D := fun xs st => match xs with
  | [.lst ds] => .ok (.int ds.length) st
  | [.tup ds] => .ok (.int ds.length) st
  | [.scr ns] => .ok (.int ns.length) st
  | [.ref n] => match st[n]? with
    | some (.cell (.ol ds)) => .ok (.int ds.length) st
    | some (.cell (.od false kvs)) => .ok (.int kvs.length) st
    | _ => .stuck
  | [.str x] => if x.length ≤ sizeLine then .ok (.int x.length) st else .stuck
  | _ => .stuck
def listOf : List D → Store → Res Slot := fun xs st => match xs with
  | [.lst ds] => .ok (.ol ds) st
  | [.tup ds] => .ok (.ol ds) st
  | [.ref n] => match st[n]? with
    | some (.cell (.ol ds)) => .ok (.ol ds) st
    | _ => .stuck
  | _ => .stuck
def tupOfD : List D → Store → Res D := fun xs st => match xs with
  | [.lst ds] => .ok (.tup ds) st
  | [.tup ds] => .ok (.tup ds) st
  | [.ref n] => match st[n]? with
    | some (.cell (.ol ds)) => .ok (.tup ds) st
    | _ => .stuck
  | _ => .stuck
theorem b_abs : OpL X (.builtin "abs") absD := .of call_abs fun W σ H g st xs vs Q S r q => by
  unfold absD at q
  split at q
  · next i =>
    obtain ⟨v, rfl, rv⟩ := r.one
    cases rv
    exact ⟨i, rfl, q.here (.int _) S⟩
  · exact q.elim
theorem b_max2 (hc : X.calm = true) : OpL X (.builtin "max") max2 := .of (call_max2 hc) fun W σ H g st xs vs Q S r q => by
  unfold max2 at q
  split at q
  · next i j =>
    obtain ⟨v, w, rfl, rv, rw⟩ := r.two
    cases rv; cases rw
    exact ⟨i, j, rfl, q.here (.int _) S⟩
  · exact q.elim
theorem b_min2 (hc : X.calm = true) : OpL X (.builtin "min") min2 := .of (call_min2 hc) fun W σ H g st xs vs Q S r q => by
  unfold min2 at q
  split at q
  · next i j =>
    obtain ⟨v, w, rfl, rv, rw⟩ := r.two
    cases rv; cases rw
    exact ⟨i, j, rfl, q.here (.int _) S⟩
  · exact q.elim
theorem b_int : OpL X (.type "int") intOf := .of call_int1 fun W σ H g st xs vs Q S r q => by
  unfold intOf at q
  split at q
  · next i =>
    obtain ⟨v, rfl, rv⟩ := r.one
    cases rv
    exact .inl ⟨i, rfl, q.here (.int _) S⟩
  · next b =>
    obtain ⟨v, rfl, rv⟩ := r.one
    cases rv
    exact .inr ⟨b, rfl, q.here (.int _) S⟩
  · exact q.elim
theorem b_str : OpL X (.type "str") strOf := .of call_str_int fun W σ H g st xs vs Q S r q => by
  unfold strOf at q
  split at q
  · next i =>
    split at q
    · next hz =>
      obtain ⟨v, rfl, rv⟩ := r.one
      cases rv
      exact ⟨i, rfl, hz, q.here (.str _) S⟩
    · exact q.elim
  · exact q.elim
/-- a cell of the store -/
theorem SOk.cellAt {g : G} {st : Store} {H : Hp} {K : PySem.W.Frag} {mg : Str → Option Value} (S : SOk K mg g st H) {n : Nat} {v : V} {s : Slot} (r : Rep K mg g (.ref n) v) (e : st[n]? = some (.cell s)) :
    ∃ a, v = .ref a ∧ g.m[n]? = some (a, [a]) ∧ SlotOk K mg g H s (some (.ref a)) [a] := by
  cases r with
  | @ref _ a h =>
    obtain ⟨p, h1, h2⟩ := S.ob.get e
    cases h2 with
    | @cell s b so =>
      have : b = a := by
        unfold G.rs at h
        rw [List.getElem?_map, h1] at h
        exact Option.some.inj h
      subst this
      exact ⟨b, rfl, h1, so⟩
theorem RepD.lenK {g : G} {K : PySem.W.Frag} {mg : Str → Option Value} : ∀ {kvs : List (DK × D)} {zs : List (Key × V)}, RepD K mg g kvs (.dK zs) → kvs.length = zs.length
  | _, _, .nilK => rfl
  | _, _, .consK _ t => by simp [RepD.lenK t]
theorem b_len : OpL X (.builtin "len") lenD := fun W pins s σ H g st xs vs us Q I S r ru q => by
  unfold lenD at q
  split at q
  · obtain ⟨v, rfl, rv⟩ := r.one
    cases rv with
    | lst h rl => exact call_len pins s σ H _ us Q I ru ⟨_, _, rfl, .inl ⟨_, SqL.of (S.kp _ _ h), rfl⟩, by rw [← rl.length]; exact q.here (.int _) S⟩
  · obtain ⟨v, rfl, rv⟩ := r.one
    cases rv with
    | tup h rl => exact call_len pins s σ H _ us Q I ru ⟨_, _, rfl, .inr ⟨_, S.sqT h, rfl⟩, by rw [← rl.length]; exact q.here (.int _) S⟩
  · next ns =>
    obtain ⟨v, rfl, rv⟩ := r.one
    cases rv with
    | scr h => exact call_len pins s σ H _ us Q I ru ⟨_, ns.length, rfl, .inl ⟨_, S.sqL h, by rw [List.length_map]⟩, q.here (.int _) S⟩
  · next n =>
    obtain ⟨v, rfl, rv⟩ := r.one
    split at q
    · next ds e =>
      obtain ⟨a, rfl, h1, h2⟩ := S.cellAt rv e
      cases h2 with
      | ol h3 rl => exact call_len pins s σ H _ us Q I ru ⟨_, _, rfl, .inl ⟨_, SqL.of h3, rfl⟩, by rw [← rl.length]; exact q.here (.int _) S⟩
    · next kvs e =>
      obtain ⟨a, rfl, h1, h2⟩ := S.cellAt rv e
      cases h2 with
      | @od _ _ _ o h3 rd hd _ =>
        cases o with
        | dK zs => exact call_lenD pins s σ H _ us Q I ru ⟨a, zs, rfl, h3, by rw [← rd.lenK]; exact q.here (.int _) S⟩
        | _ => exact (hd : False).elim
    · exact q.elim
  · split at q
    · next hz =>
      obtain ⟨v, rfl, rv⟩ := r.one
      cases rv
      exact call_len pins s σ H _ us Q I ru ⟨_, _, rfl, ⟨hz, rfl⟩, q.here (.int _) S⟩
    · exact q.elim
  · exact q.elim
theorem b_list : OpLS X (.type "list") listOf := fun W pins s σ H g st xs vs us Q I S r ru q => by
  unfold listOf at q
  split at q
  · obtain ⟨v, rfl, rv⟩ := r.one
    cases rv with
    | lst h rl => exact call_list_of pins s σ H _ us Q I ru ⟨_, _, rfl, .inl (SqL.of (S.kp _ _ h)), fun l hl => q.newLst S rl hl⟩
  · obtain ⟨v, rfl, rv⟩ := r.one
    cases rv with
    | tup h rl => exact call_list_of pins s σ H _ us Q I ru ⟨_, _, rfl, .inr (S.sqT h), fun l hl => q.newLst S rl hl⟩
  · obtain ⟨v, rfl, rv⟩ := r.one
    split at q
    · next ds e =>
      obtain ⟨a, rfl, h1, h2⟩ := S.cellAt rv e
      cases h2 with
      | ol h3 rl => exact call_list_of pins s σ H _ us Q I ru ⟨_, _, rfl, .inl (SqL.of h3), fun l hl => q.newLst S rl hl⟩
    · exact (q : False).elim
  · exact (q : False).elim
theorem b_tuple : OpL X (.type "tuple") tupOfD := fun W pins s σ H g st xs vs us Q I S r ru q => by
  unfold tupOfD at q
  split at q
  · obtain ⟨v, rfl, rv⟩ := r.one
    cases rv with
    | lst h rl => exact call_tuple_of pins s σ H _ us Q I ru ⟨_, _, rfl, .inl ⟨SqL.of (S.kp _ _ h), fun l hl => q.newTup S rl hl⟩⟩
  · obtain ⟨v, rfl, rv⟩ := r.one
    cases rv with
    | tup h rl => exact call_tuple_of pins s σ H _ us Q I ru ⟨_, _, rfl, .inr ⟨S.sqT h, q.here (.tup h rl) S⟩⟩
  · obtain ⟨v, rfl, rv⟩ := r.one
    split at q
    · next ds e =>
      obtain ⟨a, rfl, h1, h2⟩ := S.cellAt rv e
      cases h2 with
      | ol h3 rl => exact call_tuple_of pins s σ H _ us Q I ru ⟨_, _, rfl, .inl ⟨SqL.of h3, fun l hl => q.newTup S rl hl⟩⟩
    · exact q.elim
  · exact q.elim
/-- sorted, of whole numbers -/
def intsOf : List D → Option (List Int)
  | [] => some []
  | .int i :: r => (intsOf r).map (i :: ·)
  | _ :: _ => none
def srt (ns : List Int) : List Int := ns.mergeSort fun a b => decide (a ≤ b)
def sortedD : List D → Store → Res Slot := fun xs st => match xs with
  | [x] => match (match x with | .lst ds => some ds | .ref n => (match st[n]? with | some (.cell (.ol ds)) => some ds | _ => none) | _ => none) with
    | some ds => match intsOf ds with
      | some ns => .ok (.ol ((srt ns).map .int)) st
      | none => .stuck
    | none => .stuck
  | _ => .stuck
theorem intsOf_rep {g : G} {K : PySem.W.Frag} {mg : Str → Option Value} : ∀ {ds : List D} {vs : List V} {ns : List Int}, RepL K mg g ds vs → intsOf ds = some ns → vs = ns.map V.int
  | _, _, _, .nil, e => by cases e; rfl
  | d :: ds, _, ns, .cons r t, e => by
    cases d with
    | int i =>
      have e' : (intsOf ds).map (i :: ·) = some ns := e
      cases h : intsOf ds with
      | none => rw [h] at e'; cases e'
      | some ms => rw [h] at e'; cases e'; cases r; rw [intsOf_rep t h]; rfl
    | _ => cases e
theorem rep_ints {g : G} {K : PySem.W.Frag} {mg : Str → Option Value} : ∀ ns : List Int, RepL K mg g (ns.map D.int) (ns.map V.int)
  | [] => .nil
  | n :: ns => .cons (.int n) (rep_ints ns)
theorem srt_uniq {ns ms : List Int} (h : ms.Perm ns) (s : ms.Pairwise (· ≤ ·)) : ms = srt ns := by
  have p1 : (srt ns).Perm ns := List.mergeSort_perm ns _
  have s1 : (srt ns).Pairwise (fun a b => decide (a ≤ b) = true) := List.pairwise_mergeSort (by intro a b c h1 h2; simp only [decide_eq_true_eq] at *; omega) (by intro a b; simp only [Bool.or_eq_true, decide_eq_true_eq]; omega) ns
  have s2 : (srt ns).Pairwise (· ≤ ·) := s1.imp fun {a b} h => of_decide_eq_true h
  exact (h.trans p1.symm).eq_of_pairwise (fun a b _ _ h1 h2 => Int.le_antisymm h1 h2) s s2
theorem b_sorted : OpLS X (.builtin "sorted") sortedD := fun W pins s σ H g st xs vs us Q I S r ru q => by
  unfold sortedD at q
  split at q
  · next x =>
    obtain ⟨v, rfl, rv⟩ := r.one
    split at q
    · next ds e =>
      split at q
      · next ns hn =>
        have hq : ∃ a ws, v = .ref a ∧ SqL X.K H a ws ∧ RepL X.K X.mg g ds ws := by
          cases x with
          | lst ds' =>
            cases e
            cases rv with
            | lst h rl => exact ⟨_, _, rfl, SqL.of (S.kp _ _ h), rl⟩
          | ref n =>
            have e : (match st[n]? with | some (.cell (.ol ds)) => some ds | _ => none) = some ds := e
            split at e
            · next ds2 e2 =>
              cases e
              obtain ⟨a, rfl, h1, h2⟩ := S.cellAt rv e2
              cases h2 with
              | ol h3 rl => exact ⟨_, _, rfl, SqL.of h3, rl⟩
            · cases e
          | _ => cases e
        obtain ⟨a, ws, rfl, h1, rl⟩ := hq
        have hw := intsOf_rep rl hn
        subst hw
        refine cr_sortedI pins s σ H _ us Q I ru ⟨a, ns, rfl, h1, fun ns' p hp hs hz => ?_⟩
        have e2 := srt_uniq hp hs
        subst e2
        exact q.newLst S (rep_ints _) hz
      · exact (q : False).elim
    · exact (q : False).elim
  · exact (q : False).elim
/-- repr -/
def reprD : List D → Store → Res D := fun xs st => match xs with
  | [x] => match pdR st x with
    | some d => if d.showable = true ∧ d.hasDict = false ∧ d.depth ≤ 64 ∧ d.shown.length ≤ sizeLine then .ok (.str d.shown) st else .stuck
    | none => .stuck
  | _ => .stuck
theorem wp_repr {pins : List (Addr × Obj)} {s : Shared} {σ : L2.St} {H : Hp} {v : V} {u : Value} {d : PyData} {Q : VK} {k : Nat} (hr : Rm k X.A) (I : L2.Inv X pins σ H s) (dp : Dp X.K H v d) (ru : RelV v u) (h1 : d.showable = true) (h2 : d.hasDict = false) (h3 : d.depth ≤ 64) (h4 : d.shown.length ≤ sizeLine) (q : Q (.str d.shown) H) :
    wpAny (model X.prog X.w) X.A (call (.builtin "repr") [u]) (EP X pins σ Q) X.xe s := by
  obtain ⟨as, rd⟩ := Dp.reads I d v u dp ru
  cases dp with
  | non =>
    cases ru
    unfold PyData.shown at q
    exact PySem.P.repr_of_none ⟨.str _, H, I.tok _, ⟨_, rfl⟩, q⟩
  | bl b =>
    cases ru
    unfold PyData.shown at q
    cases b with
    | true => exact PySem.P.repr_of_bool ⟨.str _, H, I.tok _, ⟨_, rfl⟩, q⟩
    | false => exact PySem.P.repr_of_bool ⟨.str _, H, I.tok _, ⟨_, rfl⟩, q⟩
  | int i =>
    obtain ⟨t, rfl⟩ := ru
    unfold PyData.shown at q
    unfold PyData.showable at h1
    exact PySem.P.repr_of_int (of_decide_eq_true h1) ⟨.str _, H, I.tok _, ⟨_, rfl⟩, q⟩
  | str x =>
    obtain ⟨t, rfl⟩ := ru
    unfold PyData.shown at q h4
    exact PySem.P.repr_of_str ⟨.str _, H, I.tok _, ⟨_, rfl⟩, q⟩ h4
  | lst h r =>
    cases ru
    have hu := hr.room.units
    exact repr_of_reads' rd h1 (fun z => by rw [h2] at z; cases z) hr.gd (by
      have : X.A.units + 16 * k + 200 < cLine := hr.room.un
      omega) (fun _ _ e => e) (fun h' u tk kp => ⟨.str _, H, I.kept kp, ⟨_, rfl⟩, q⟩) h4
  | tup h r =>
    cases ru
    exact repr_of_reads' rd h1 (fun z => by rw [h2] at z; cases z) hr.gd (by
      have : X.A.units + 16 * k + 200 < cLine := hr.room.un
      omega) (fun _ _ e => e) (fun h' u tk kp => ⟨.str _, H, I.kept kp, ⟨_, rfl⟩, q⟩) h4
theorem b_repr {k : Nat} (hr : Rm k X.A) : OpL X (.builtin "repr") reprD := fun W pins s σ H g st xs vs us Q I S r ru q => by
  unfold reprD at q
  split at q
  · next x =>
    obtain ⟨v, rfl, rv⟩ := r.one
    obtain ⟨u, rfl, ru'⟩ := vals1 ru
    split at q
    · next d e =>
      split at q
      · next hz => exact wp_repr hr I (pdR_dp S rv e) ru' hz.1 hz.2.1 hz.2.2.1 hz.2.2.2 (q.here (.str _) S)
      · exact q.elim
    · exact q.elim
  · exact q.elim
/-- isinstance of built-in classes -/
def tyName : D → Option String
  | .non => some "NoneType" | .bl _ => some "bool" | .int _ => some "int" | .str _ => some "str" | .tup _ => some "tuple" | .lst _ => some "list" | .scr _ => some "list" | _ => none
def isTy (a T : String) : Bool := a == T || (a == "bool" && T == "int")
def tyKnown : List String := ["int", "bool", "str", "tuple", "list"]
theorem isTy_ok : (["NoneType", "bool", "int", "str", "tuple", "list"].all fun a => tyKnown.all fun T => decide (kitB a T = some (isTy a T))) = true := by decide +kernel
def tyR (st : Store) : D → Option String
  | .ref n => match st[n]? with
    | some (.cell (.ol _)) => some "list"
    | _ => none
  | d => tyName d
theorem tyR_of {st : Store} {x : D} {a : String} (e : tyName x = some a) : tyR st x = some a := by cases x <;> first | exact e | cases e
def isiD : List D → Store → Res D := fun xs st => match xs with
  | [x, .ty T] => match tyR st x with
    | some a => if T ∈ tyKnown then .ok (.bl (isTy a T)) st else .stuck
    | none => .stuck
  | [x, .tup [.ty T, .ty T']] => match tyR st x with
    | some a => if T ∈ tyKnown ∧ T' ∈ tyKnown then .ok (.bl (isTy a T || isTy a T')) st else .stuck
    | none => .stuck
  | _ => .stuck
theorem tyX_of {g : G} {st : Store} {H : Hp} (S : SOk X.K X.mg g st H) {x : D} {v : V} {a : String} (r : Rep X.K X.mg g x v) (e : tyName x = some a) : TyX X.K H v (.type a) ∧ a ∈ ["NoneType", "bool", "int", "str", "tuple", "list"] := by
  cases r with
  | non => cases e; exact ⟨.base .non, by simp⟩
  | bl b => cases e; exact ⟨.base (.bl b), by simp⟩
  | int i => cases e; exact ⟨.base (.int i), by simp⟩
  | str x => cases e; exact ⟨.base (.str x), by simp⟩
  | tup h r =>
    cases e
    refine ⟨?_, by simp⟩
    exact .base (.tup (S.tupAt h).tr)
  | lst h r => cases e; exact ⟨.base (.lst (S.kp _ _ h)), by simp⟩
  | scr h =>
    cases e
    refine ⟨?_, by simp⟩
    rcases S.sqL h with (h | ⟨o, h⟩) | ⟨o, its, n, hk, hc, _⟩
    · exact .base (.lst h)
    · exact .base (.frz h)
    · exact .kList hk hc
  | _ => cases e
theorem tyX_ofR {g : G} {st : Store} {H : Hp} (S : SOk X.K X.mg g st H) {x : D} {v : V} {a : String} (r : Rep X.K X.mg g x v) (e : tyR st x = some a) : TyX X.K H v (.type a) ∧ a ∈ ["NoneType", "bool", "int", "str", "tuple", "list"] := by
  cases x with
  | ref n =>
    unfold tyR at e
    simp only at e
    split at e
    · next ds he =>
      cases e
      obtain ⟨b, rfl, _, so⟩ := S.cellAt r he
      cases so with
      | ol h _ => exact ⟨.base (.lst h), by simp⟩
    · cases e
  | _ => exact tyX_of S r e
theorem kit_of' {a T : String} (ha : a ∈ ["NoneType", "bool", "int", "str", "tuple", "list"]) (hT : T ∈ tyKnown) : kitB a T = some (isTy a T) := by
  have h := isTy_ok
  rw [List.all_eq_true] at h
  have h2 := h a ha
  rw [List.all_eq_true] at h2
  exact of_decide_eq_true (h2 T hT)
theorem b_isinstance : OpL X (.builtin "isinstance") isiD := fun W pins s σ H g st xs vs us Q I S r ru q => by
  unfold isiD at q
  split at q
  · next x T =>
    split at q
    · next a e =>
      split at q
      · next hT =>
        obtain ⟨v, w, rfl, rv, rw⟩ := r.two
        cases rw
        obtain ⟨ty, ha⟩ := tyX_ofR S rv e
        exact call_isi pins s σ H _ us Q I ru ⟨v, .ty T, .type a, .type T, _, rfl, .ty T, ty, kit_ty (kit_of' ha hT), q.here (.bl _) S⟩
      · exact q.elim
    · exact q.elim
  · next x T T' =>
    split at q
    · next a e =>
      split at q
      · next hT =>
        obtain ⟨v, w, rfl, rv, rw⟩ := r.two
        cases rw with
        | @tup p vs ds h rl =>
          obtain ⟨v1, v2, rfl, r1, r2⟩ := rl.two
          cases r1; cases r2
          obtain ⟨ty, ha⟩ := tyX_ofR S rv e
          have k1 := kit_of' ha hT.1
          have k2 := kit_of' ha hT.2
          have ka : PySem.W.kitAny X.K (.type a) [.type T, .type T'] = some (isTy a T || isTy a T') := by
            refine kitAny_cons (kit_ty k1) (fun hb => ?_) (fun hb => by rw [hb]; rfl)
            refine kitAny_cons (kit_ty k2) (fun hb' => ?_) (fun hb' => by rw [hb']; simp)
            rw [hb, hb']
            exact kitAny_nil
          have h := (S.tupAt h).tr
          exact call_isiT pins s σ H _ us Q I ru ⟨v, p, _, .type a, _, _, rfl, h, .cons (.ty T) (.cons (.ty T') .nil), ty, ka, q.here (.bl _) S⟩
      · exact q.elim
    · exact q.elim
  · exact q.elim
end
end EV

set_option Elab.async false
set_option linter.all false
set_option autoImplicit false
set_option maxRecDepth 100000
set_option maxHeartbeats 400000
/-! subscripts, slices, lists that change -/
namespace EV
open PySem PySem.Spec PyProof.Rows L2

/-! ### a tuple read backward -/
section
open HT
variable {prog : Program} {w : World} {A : Around} {E : Value → Shared → Prop} {s : Shared}
theorem sliceApplied_rev {sl : Addr} {vl vu vs : Value} {n : Nat} {Q : Int × Int × Nat → Shared → Prop} (hs : s.heap.IsSliceOf sl vl vu vs) (pl : IsPart vl none) (pu : IsPart vu none) (ps : IsPart vs (some (-1)))
    (h : Q ((n : Int) - 1, -1, n) s) : wpAny (model prog w) A (Builtin.Slice.sliceApplied (.ref sl) (pure (n : Int))) Q E s := by
  obtain ⟨os, hos, hcs, hds⟩ := id hs
  unfold Builtin.Slice.sliceApplied Builtin.Slice.sliceFields
  refine wpAny_bind (wpAny_bind (wpAny_field hos hds (x := vl) rfl (wpAny_bind (wpAny_field hos hds (x := vu) rfl (wpAny_bind (wpAny_field hos hds (x := vs) rfl (wpAny_pure ?_)))))))
  refine wpAny_bind (slicePart_ ps ?_)
  show wpAny _ _ (if ((-1 : Int) == 0) = true then _ else _) _ _ s
  rw [if_neg (by decide)]
  refine wpAny_bind (slicePart_ pl (wpAny_bind (slicePart_ pu (wpAny_bind (wpAny_pure ?_)))))
  show wpAny _ _ (match Builtin.Slice.sliceAdjust none none (-1) (n : Int) with | (lo, hi) => pure (lo, (-1 : Int), Builtin.Slice.slicePlaces lo hi (-1))) _ _ s
  have e1 : Builtin.Slice.sliceAdjust none none (-1) (n : Int) = ((n : Int) - 1, -1) := by simp [Builtin.Slice.sliceAdjust]
  rw [e1]
  show wpAny _ _ (pure ((n : Int) - 1, (-1 : Int), Builtin.Slice.slicePlaces ((n : Int) - 1) (-1) (-1))) _ _ s
  have e2 : Builtin.Slice.slicePlaces ((n : Int) - 1) (-1) (-1) = n := by
    unfold Builtin.Slice.slicePlaces
    rw [if_neg (by decide)]
    split
    · rw [show (-(-1) : Int) = 1 by decide, Int.ediv_one]; omega
    · omega
  rw [e2]
  exact wpAny_pure h
theorem range_rev {α : Type} (l : List α) : (List.range l.length).filterMap (fun m => l[l.length - 1 - m]?) = l.reverse := by
  have h : ∀ (k : Nat), k ≤ l.length → (List.range k).filterMap (fun m => l[l.length - 1 - m]?) = (l.drop (l.length - k)).reverse := by
    intro k
    induction k with
    | zero => intro _; simp
    | succ k ih =>
      intro hk
      rw [List.range_succ, List.filterMap_append, ih (by omega)]
      have e : l.length - 1 - k = l.length - (k + 1) := by omega
      have hlt : l.length - (k + 1) < l.length := by omega
      simp only [List.filterMap_cons, List.filterMap_nil, e, List.getElem?_eq_getElem hlt]
      rw [List.drop_eq_getElem_cons hlt, List.reverse_cons]
      have e2 : l.length - (k + 1) + 1 = l.length - k := by omega
      rw [e2]
  rw [h l.length (Nat.le_refl _), Nat.sub_self, List.drop_zero]
theorem pick_rev (xs : Array Value) : ((List.range xs.size).filterMap fun (m : Nat) => xs[(((xs.size : Nat) : Int) - 1 + (m : Int) * (-1)).toNat]?).toArray = xs.toList.reverse.toArray := by
  rw [← range_rev xs.toList, Array.length_toList]
  congr 1
  have key : ∀ k, k ≤ xs.size → (List.range k).filterMap (fun (m : Nat) => xs[(((xs.size : Nat) : Int) - 1 + (m : Int) * (-1)).toNat]?) = (List.range k).filterMap (fun m => xs.toList[xs.size - 1 - m]?) := by
    intro k
    induction k with
    | zero => intro _; rfl
    | succ k ih =>
      intro hk
      have e : (((xs.size : Nat) : Int) - 1 + (k : Int) * (-1)).toNat = xs.size - 1 - k := by omega
      rw [List.range_succ, List.filterMap_append, List.filterMap_append, ih (by omega)]
      simp only [List.filterMap_cons, List.filterMap_nil, e, Array.getElem?_toList]
  exact key _ (Nat.le_refl _)
theorem getItem_tuple_rev {t sl : Addr} {items : Array Value} {vl vu vs : Value} {Q : Value → Shared → Prop} (ht : IsTup s.heap t items) (hs : s.heap.IsSliceOf sl vl vu vs) (pl : IsPart vl none) (pu : IsPart vu none) (ps : IsPart vs (some (-1)))
    (h : Q (.ref s.heap.objs.size) { s with heap := s.heap.push { cls := .type "tuple", data := .seq items.toList.reverse.toArray } })
    (hsz : items.size ≤ sizeLine) : wpAny (model prog w) A (getItem (.ref t) (.ref sl)) Q E s := by
  have htake : sizeOk (.seq items.toList.reverse.toArray) := by
    show items.toList.reverse.toArray.size ≤ sizeLine
    rw [List.size_toArray, List.length_reverse, Array.length_toList]
    exact hsz
  obtain ⟨os, hos, hcs, hds⟩ := id hs
  have hTs : s.TypeIs (.ref sl) "slice" := ⟨os, hos, hcs⟩
  unfold getItem
  try with_reducible refine wpAny_holding ?_
  first | refine wpAny_bind (wpAny_pure ?_) | skip
  refine wpAny_bind (wpAny_sequenceKey ht.typeIs (by decide) ?_)
  refine wpAny_bind (wpAny_callSpecial?_slot (name := Str.ofString "__getitem__") ht.typeIs PyProof.Rows.slot_tuple_getitem
    (wpAny_call_entry PyProof.Rows.slot_tuple_getitem ht.typeIs entry_tuple_getitem ?_ (args_tuple_getitem _ _)))
  show wpAny _ _ (Builtin.Tuple.tupleItemsOf (.ref t) >>= _) _ _ s
  refine wpAny_bind (tupleItemsOf_ ht ?_)
  refine wpAny_bind (wpAny_typeOf hTs ?_)
  rw [if_pos (by decide)]
  refine wpAny_bind (sliceApplied_rev hs pl pu ps ?_)
  have hno : ¬ (((((items.size : Nat) : Int) - 1) == 0 && (-1 : Int) == 1 && items.size == items.size) = true) := by
    intro q
    rw [Bool.and_eq_true, Bool.and_eq_true] at q
    exact absurd q.1.2 (by decide)
  show wpAny _ _ (if ((((items.size : Nat) : Int) - 1) == 0 && (-1 : Int) == 1 && items.size == items.size) = true then _ else _) _ _ s
  rw [if_neg hno, pick_rev]
  first
    | exact wpAny_bind (m := Builtin.Tuple.tupleExact _) (wpAny_newObj_type (wpAny_pure ⟨_, rfl, wpAny_pure h⟩) htake)
    | exact wpAny_bind (m := Builtin.Tuple.tupleExact _) (wpAny_newObj_type (wpAny_bind (wpAny_pure (wpAny_pure ⟨_, rfl, wpAny_pure h⟩))) htake)
    | exact wpAny_bind (wpAny_bind (m := Builtin.Tuple.tupleExact _) (wpAny_newObj_type (wpAny_pure (wpAny_pure ⟨_, rfl, wpAny_pure h⟩)) htake))
    | exact wpAny_bind (wpAny_bind (m := Builtin.Tuple.tupleExact _) (wpAny_newObj_type (wpAny_pure ⟨_, rfl, wpAny_pure h⟩) htake))
end

/-! ### subscripts -/
def atD (st : Store) : D → Int → Option D
  | .lst ds, i => atI ds i
  | .tup ds, i => atI ds i
  | .scr ns, i => (atI ns i).map .int
  | .str z, i => if z.length ≤ sizeLine then (atI z.cps.toList i).map fun c => .str ⟨#[c]⟩ else none
  | .ref n, i => match st[n]? with
    | some (.cell (.ol ds)) => atI ds i
    | _ => none
  | _, _ => none
/-- a dict's keys -/
def keyOf : D → Option Key
  | .int i => some (.inl i)
  | .str x => some (.inr x)
  | _ => none
def keysOf : List D → Option (List Key)
  | [] => some []
  | d :: ds => match keyOf d, keysOf ds with
    | some a, some b => some (a :: b)
    | _, _ => none
def dkOf : D → Option DK
  | .int i => some (.k (.inl i))
  | .str x => some (.k (.inr x))
  | .tup ds => (keysOf ds).map .t
  | _ => none
def dictOf (st : Store) : D → Option (List (DK × D))
  | .dct kvs => some kvs
  | .ref n => match st[n]? with
    | some (.cell (.od _ kvs)) => some kvs
    | _ => none
  | _ => none
def lkD : List (DK × D) → DK → Option D
  | [], _ => none
  | (x, d) :: r, k => if x = k then some d else lkD r k
def putD : List (DK × D) → DK → D → List (DK × D)
  | [], k, d => [(k, d)]
  | (x, e) :: r, k, d => if x = k then (x, d) :: r else (x, e) :: putD r k d
def dropD : List (DK × D) → DK → List (DK × D)
  | [], _ => []
  | (x, e) :: r, k => if x = k then dropD r k else (x, e) :: dropD r k
section
variable {K : PySem.W.Frag} {mg : Str → Option Value} {g : G}
theorem keyOf_rep {d : D} {v : V} {k : Key} (r : Rep K mg g d v) (e : keyOf d = some k) : v = kV k := by
  cases d with
  | int i => cases e; cases r; rfl
  | str x => cases e; cases r; rfl
  | _ => cases e
theorem keysOf_rep : ∀ {ds : List D} {vs : List V} {ks : List Key}, RepL K mg g ds vs → keysOf ds = some ks → vs = ks.map kV
  | _, _, _, .nil, e => by cases e; rfl
  | _, _, _, .cons r t, e => by
    unfold keysOf at e
    split at e
    · next a b ha hb =>
      cases e
      rw [keyOf_rep r ha, keysOf_rep t hb]
      rfl
    · cases e
theorem RepD.getK {x : Key} : ∀ {kvs : List (DK × D)} {zs : List (Key × V)}, RepD K mg g kvs (.dK zs) → (∀ d, lkD kvs (.k x) = some d → ∃ v, valV zs x = some v ∧ Rep K mg g d v) ∧ (lkD kvs (.k x) = none → valV zs x = none)
  | _, _, .nilK => ⟨fun d e => (nomatch e), fun _ => rfl⟩
  | _, _, .consK (x := y) (d := d0) (v := v0) (kvs := kvs) (zs := zs) r t => by
    obtain ⟨i1, i2⟩ := RepD.getK (x := x) t
    unfold lkD
    by_cases h : y = x
    · subst h
      rw [if_pos rfl, valV_pos rfl]
      exact ⟨fun d e => (by cases e; exact ⟨v0, rfl, r⟩), fun e => (nomatch e)⟩
    · rw [if_neg (by simpa using h), valV_neg (by simpa using h)]
      exact ⟨i1, i2⟩
theorem RepD.getT {x : List Key} : ∀ {kvs : List (DK × D)} {zs : List (List Key × V)}, RepD K mg g kvs (.dT zs) → (∀ d, lkD kvs (.t x) = some d → ∃ v, valV zs x = some v ∧ Rep K mg g d v) ∧ (lkD kvs (.t x) = none → valV zs x = none)
  | _, _, .nilT => ⟨fun d e => (nomatch e), fun _ => rfl⟩
  | _, _, .consT (x := y) (d := d0) (v := v0) (kvs := kvs) (zs := zs) r t => by
    obtain ⟨i1, i2⟩ := RepD.getT (x := x) t
    unfold lkD
    by_cases h : y = x
    · subst h
      rw [if_pos rfl, valV_pos rfl]
      exact ⟨fun d e => (by cases e; exact ⟨v0, rfl, r⟩), fun e => (nomatch e)⟩
    · rw [if_neg (by simpa using h), valV_neg (by simpa using h)]
      exact ⟨i1, i2⟩
theorem putK_cons {κ : Type} [DecidableEq κ] (p : κ × V) (r : List (κ × V)) (nd : ((p :: r).map (·.1)).Nodup) (k : κ) (v : V) : putK (p :: r) k v = if p.1 = k then (p.1, v) :: r else p :: putK r k v := by
  unfold putK
  by_cases h : p.1 = k
  · subst h
    have hn : ∀ q ∈ r, ¬ q.1 = p.1 := fun q hq e => by
      simp only [List.map_cons, List.nodup_cons, List.mem_map] at nd
      exact nd.1 ⟨q, hq, e⟩
    have e1 : r.map (fun kv => if kv.1 = p.1 then (kv.1, v) else kv) = r := by
      rw [List.map_congr_left (g := id) (fun q hq => by rw [if_neg (hn q hq)]; rfl), List.map_id]
    simp only [List.any_cons, decide_true, Bool.true_or, if_true, List.map_cons]
    rw [e1]
  · have h' : decide (p.1 = k) = false := decide_eq_false h
    simp only [List.any_cons, h', Bool.false_or, List.map_cons, if_neg h]
    split
    · rfl
    · rfl
theorem RepD.putK_ {x : Key} {d : D} {v : V} (rd : Rep K mg g d v) : ∀ {kvs : List (DK × D)} {zs : List (Key × V)}, RepD K mg g kvs (.dK zs) → (zs.map (·.1)).Nodup → RepD K mg g (putD kvs (.k x) d) (.dK (putK zs x v))
  | _, _, .nilK, _ => show RepD K mg g [(.k x, d)] (.dK [(x, v)]) from .consK rd .nilK
  | _, _, .consK (x := y) (d := d0) (v := v0) (kvs := kvs) (zs := zs) r t, nd => by
    rw [putK_cons _ _ nd]
    unfold putD
    by_cases h : y = x
    · subst h
      rw [if_pos rfl, if_pos rfl]
      exact .consK rd t
    · rw [if_neg (by simpa using h), if_neg (by simpa using h)]
      exact .consK r (RepD.putK_ rd t (List.nodup_cons.mp nd).2)
theorem RepD.putT_ {x : List Key} {d : D} {v : V} (rd : Rep K mg g d v) : ∀ {kvs : List (DK × D)} {zs : List (List Key × V)}, RepD K mg g kvs (.dT zs) → (zs.map (·.1)).Nodup → RepD K mg g (putD kvs (.t x) d) (.dT (putK zs x v))
  | _, _, .nilT, _ => show RepD K mg g [(.t x, d)] (.dT [(x, v)]) from .consT rd .nilT
  | _, _, .consT (x := y) (d := d0) (v := v0) (kvs := kvs) (zs := zs) r t, nd => by
    rw [putK_cons _ _ nd]
    unfold putD
    by_cases h : y = x
    · subst h
      rw [if_pos rfl, if_pos rfl]
      exact .consT rd t
    · rw [if_neg (by simpa using h), if_neg (by simpa using h)]
      exact .consT r (RepD.putT_ rd t (List.nodup_cons.mp nd).2)
theorem RepD.dropK_ {x : Key} : ∀ {kvs : List (DK × D)} {zs : List (Key × V)}, RepD K mg g kvs (.dK zs) → RepD K mg g (dropD kvs (.k x)) (.dK (dropK zs x))
  | _, _, .nilK => .nilK
  | _, _, .consK (x := y) (d := d0) (v := v0) (kvs := kvs) (zs := zs) r t => by
    have ih := RepD.dropK_ (x := x) t
    unfold dropK at ih ⊢
    unfold dropD
    by_cases h : y = x
    · subst h
      rw [if_pos rfl, List.filter_cons_of_neg (by simp)]
      exact ih
    · rw [if_neg (by simpa using h), List.filter_cons_of_pos (by simpa using h)]
      exact .consK r ih
theorem RepD.lenT : ∀ {kvs : List (DK × D)} {zs : List (List Key × V)}, RepD K mg g kvs (.dT zs) → kvs.length = zs.length
  | _, _, .nilT => rfl
  | _, _, .consT _ t => by simp [RepD.lenT t]
/-- a dict, frozen or of the store -/
theorem SOk.dictAt {st : Store} {H : Hp} (S : SOk K mg g st H) {x : D} {v : V} {kvs : List (DK × D)} (r : Rep K mg g x v) (e : dictOf st x = some kvs) : ∃ a o, v = .ref a ∧ Rd H a o ∧ RepD K mg g kvs o := by
  cases x with
  | dct k2 =>
    cases e
    cases r with
    | dct h rd => exact ⟨_, _, rfl, .inr ⟨_, S.kp _ _ h⟩, rd⟩
  | ref n =>
    have e : (match st[n]? with | some (.cell (.od _ kvs)) => some kvs | _ => none) = some kvs := e
    split at e
    · next t k2 hs =>
      cases e
      obtain ⟨a, rfl, h1, h2⟩ := S.cellAt r hs
      cases h2 with
      | od h3 rd hd _ => exact ⟨a, _, rfl, .inl h3, rd⟩
    · cases e
  | _ => cases e
/-- what it holds at a key -/
theorem SOk.dget {st : Store} {H : Hp} (S : SOk K mg g st H) {y : D} {vy : V} {kvs : List (DK × D)} {k : DK} {a : Addr} {o : HO} (ry : Rep K mg g y vy) (hk : dkOf y = some k) (ha : Rd H a o) (rd : RepD K mg g kvs o) (hs : kvs ≠ [] ∨ HO.isD (match k with | .k _ => false | .t _ => true) o) :
    ∃ ov, DGet H a vy ov ∧ (∀ d, lkD kvs k = some d → ∃ v, ov = some v ∧ Rep K mg g d v) ∧ (lkD kvs k = none → ov = none) ∨ (lkD kvs k = none) := by
  cases k with
  | k x =>
    cases rd with
    | nilT => exact ⟨none, .inr rfl⟩
    | consT _ _ =>
      refine ⟨none, .inr ?_⟩
      rename_i kvs zs _ t
      have : ∀ {kvs : List (DK × D)} {zs : List (List Key × V)}, RepD K mg g kvs (.dT zs) → lkD kvs (.k x) = none := by
        intro kvs zs t
        induction kvs generalizing zs with
        | nil => rfl
        | cons p r ih => cases t with
          | consT _ t => unfold lkD; rw [if_neg (by intro h; cases h)]; exact ih t
      unfold lkD
      rw [if_neg (by intro h; cases h)]
      exact this t
    | nilK =>
      have hv : vy = kV x := by
        cases y with
        | int i => cases hk; cases ry; rfl
        | str z => cases hk; cases ry; rfl
        | tup ds => (have hk : (keysOf ds).map DK.t = some _ := hk); cases h : keysOf ds <;> rw [h] at hk <;> cases hk
        | _ => cases hk
      subst hv
      exact ⟨none, .inl ⟨.inl ⟨[], x, ha, rfl, rfl⟩, fun d e => (nomatch e), fun _ => rfl⟩⟩
    | consK r t =>
      rename_i y0 d0 v0 kvs zs
      have hv : vy = kV x := by
        cases y with
        | int i => cases hk; cases ry; rfl
        | str z => cases hk; cases ry; rfl
        | tup ds => (have hk : (keysOf ds).map DK.t = some _ := hk); cases h : keysOf ds <;> rw [h] at hk <;> cases hk
        | _ => cases hk
      subst hv
      exact ⟨_, .inl ⟨.inl ⟨_, x, ha, rfl, rfl⟩, fun d e => (RepD.getK (.consK r t)).1 d e, fun e => (RepD.getK (.consK r t)).2 e⟩⟩
  | t xs =>
    have hv : ∃ b, vy = .ref b ∧ H b = some (.tup (xs.map kV)) := by
      cases y with
      | tup ds =>
        have hk : (keysOf ds).map DK.t = some (.t xs) := hk
        cases h : keysOf ds with
        | none => rw [h] at hk; cases hk
        | some ks =>
          rw [h] at hk
          cases hk
          cases ry with
          | tup ht rl => exact ⟨_, rfl, by rw [← keysOf_rep rl h]; exact (S.tupAt ht).tr⟩
      | _ => cases hk
    obtain ⟨b, rfl, hb⟩ := hv
    cases rd with
    | nilK => exact ⟨none, .inr rfl⟩
    | consK _ _ =>
      refine ⟨none, .inr ?_⟩
      rename_i kvs zs _ t
      have : ∀ {kvs : List (DK × D)} {zs : List (Key × V)}, RepD K mg g kvs (.dK zs) → lkD kvs (.t xs) = none := by
        intro kvs zs t
        induction kvs generalizing zs with
        | nil => rfl
        | cons p r ih => cases t with
          | consK _ t => unfold lkD; rw [if_neg (by intro h; cases h)]; exact ih t
      unfold lkD
      rw [if_neg (by intro h; cases h)]
      exact this t
    | nilT => exact ⟨none, .inl ⟨.inr ⟨[], xs, b, ha, rfl, hb, rfl⟩, fun d e => (nomatch e), fun _ => rfl⟩⟩
    | consT r t =>
      exact ⟨_, .inl ⟨.inr ⟨_, xs, b, ha, rfl, hb, rfl⟩, fun d e => (RepD.getT (.consT r t)).1 d e, fun e => (RepD.getT (.consT r t)).2 e⟩⟩
end
def ixD : D → D → Store → Res D := fun x y st => match dictOf st x with
  | some kvs => match dkOf y with
    | some k => match lkD kvs k with
      | some d => .ok d st
      | none => .stuck
    | none => .stuck
  | none => match y with
    | .int i => match atD st x i with
      | some d => .ok d st
      | none => .stuck
    | _ => .stuck
theorem atI_rep {K : PySem.W.Frag} {mg : Str → Option Value} {g : G} {ds : List D} {vs : List V} (r : RepL K mg g ds vs) {i : Int} {d : D} (e : atI ds i = some d) : ∃ v, atI vs i = some v ∧ Rep K mg g d v := by
  unfold atI at e ⊢
  rw [← r.length]
  cases q : ixN ds.length i with
  | none => rw [q] at e; cases e
  | some j =>
    rw [q] at e
    exact r.get e
section
variable {X : Cx} {W : Wi} {a b e : Expr} {fa fb : En → Store → Res D} {pos : Pos}
/-- an object of the store that is a list -/
theorem SOk.objL {K : PySem.W.Frag} {mg : Str → Option Value} {g : G} {st : Store} {H : Hp} (S : SOk K mg g st H) {n : Nat} {v : V} {ds : List D} (r : Rep K mg g (.ref n) v) (e : st[n]? = some (.cell (.ol ds))) :
    ∃ a vs, v = .ref a ∧ g.m[n]? = some (a, [a]) ∧ H a = some (.lst vs) ∧ RepL K mg g ds vs := by
  cases r with
  | @ref _ a h =>
    obtain ⟨p, h1, h2⟩ := S.ob.get e
    cases h2 with
    | @cell s b so =>
      cases so with
      | ol h3 h4 =>
        have : b = a := by
          unfold G.rs at h
          rw [List.getElem?_map, h1] at h
          exact Option.some.inj h
        subst this
        exact ⟨b, _, rfl, h1, h3, h4⟩
theorem e_ix {k : Nat} (hr : Rm k X.A) (ha : EE X W a fa) (hb : EE X W b fb) (hs : PlainIx b) : EE X W (.Subscript a b pos) (v2 ixD fa fb) :=
  ⟨fun pins s σ H Q I h => Subscript_ (two ha hb I h fun g st x y v u s2 vx vy H2 I2 S rx ry r1 r2 q => by
    unfold ixD at q
    split at q
    · next kvs hkv =>
      split at q
      · next k hk =>
        split at q
        · next d hd =>
          obtain ⟨p, o, rfl, hp, rdd⟩ := S.dictAt rx hkv
          obtain ⟨ov, h1⟩ := S.dget ry hk hp rdd (.inl (fun z => by rw [z] at hd; cases hd))
          rcases h1 with ⟨h1, h2, h3⟩ | h1
          · obtain ⟨w, rfl, rw'⟩ := h2 d hd
            cases r1
            exact tail_any (dict_typeIs I2 h1) PySem.F.slot_dict_getitem.lookup (d_getItem (by have := hr.room.un; omega) I2 h1 r2 fun w' s3 I3 r3 => ⟨w, H2, I3, r3, q.here rw' S⟩) (hs _ _)
          · rw [h1] at hd; cases hd
        · exact q.elim
      · exact q.elim
    split at q
    · next i =>
      cases ry
      split at q
      · next d hd =>
        cases x with
        | lst ds =>
          cases rx with
          | lst hx rl =>
            obtain ⟨z, h1, h2⟩ := atI_rep rl hd
            exact ix_list a b pins s2 σ H2 _ _ v u Q I2 r1 r2 ⟨_, _, _, z, rfl, rfl, SqL.of (S.kp _ _ hx), h1, q.here h2 S⟩ (hs _ _)
        | tup ds =>
          cases rx with
          | tup hx rl =>
            obtain ⟨z, h1, h2⟩ := atI_rep rl hd
            exact ix_tup a b pins s2 σ H2 _ _ v u Q I2 r1 r2 ⟨_, _, _, z, rfl, rfl, S.sqT hx, h1, q.here h2 S⟩ (hs _ _)
        | scr ns =>
          cases rx with
          | scr hx =>
            have hd' : (atI ns i).map D.int = some d := hd
            cases hz : atI ns i with
            | none => rw [hz] at hd'; cases hd'
            | some z =>
              rw [hz] at hd'
              cases hd'
              have h1 : atI (ns.map V.int) i = some (.int z) := by
                unfold atI at hz ⊢
                rw [List.length_map]
                cases q2 : ixN ns.length i with
                | none => rw [q2] at hz; cases hz
                | some j =>
                  rw [q2] at hz
                  show (ns.map V.int)[j]? = _
                  rw [List.getElem?_map, (show ns[j]? = some z from hz)]
                  rfl
              exact ix_list a b pins s2 σ H2 _ _ v u Q I2 r1 r2 ⟨_, _, _, _, rfl, rfl, S.sqL hx, h1, q.here (.int z) S⟩ (hs _ _)
        | str z =>
          cases rx
          have hd' : (if z.length ≤ sizeLine then (atI z.cps.toList i).map fun c => D.str ⟨#[c]⟩ else none) = some d := hd
          split at hd'
          · next hz =>
            cases hq : atI z.cps.toList i with
            | none => rw [hq] at hd'; cases hd'
            | some c =>
              rw [hq] at hd'
              cases hd'
              exact ix_str a b pins s2 σ H2 _ _ v u Q I2 r1 r2 ⟨_, _, c, rfl, rfl, hz, hq, q.here (.str _) S⟩ (hs _ _)
          · cases hd'
        | ref n =>
          have hd' : (match st[n]? with | some (.cell (.ol ds)) => atI ds i | _ => none) = some d := hd
          split at hd'
          · next ds he =>
            obtain ⟨p, vs, rfl, _, h3, h4⟩ := S.objL rx he
            obtain ⟨z, h1, h2⟩ := atI_rep h4 hd'
            exact ix_list a b pins s2 σ H2 _ _ v u Q I2 r1 r2 ⟨_, _, _, z, rfl, rfl, SqL.of h3, h1, q.here h2 S⟩ (hs _ _)
          · cases hd'
        | _ => exact nomatch hd
      · exact q.elim
    · exact q.elim)⟩
/-- x[e], x an own list at slot i -/
def vIxO (i : Nat) (fb : En → Store → Res D) : En → Store → Res D := fun env st => match env[i]? with
  | some (.ol ds) => (fb env st).bind fun y st => match y with
    | .int k => match atI ds k with
      | some d => .ok d st
      | none => .stuck
    | _ => .stuck
  | _ => .stuck
theorem e_ixO (i : Nat) {x : Str} {xpos : Pos} (hN : X.N[i]? = some x) (hv : Vis X.env.scope x) (hb : EE X W b fb) (hs : PlainIx b) (hd : (x == ("__debug__" : Str)) = false := by decide) (hcd : (x == ("__classdict__" : Str)) = false := by decide) : EE X W (.Subscript (.Name x xpos) b pos) (vIxO i fb) := by
  refine ⟨fun pins s σ H Q I h => ?_⟩
  obtain ⟨g, env, st, os, he, ho, hS, h⟩ := h
  unfold vIxO at h
  split at h
  · next ds hd' =>
    obtain ⟨o, l, h1, h2, h3⟩ := he.get hd'
    cases h2 with
    | @ol _ a vs ha rl =>
      refine (pe_ix ix_list (pe_var hN hv hd hcd) hb hs).run pins s σ H Q I ⟨_, h1, g, env, st, os, he, ho, hS, (Post.bind h).imp fun y H2 q => ?_⟩
      obtain ⟨g1, y, st1, s1, ry, S1, h4⟩ := q
      split at h4
      · next k =>
        cases ry
        split at h4
        · next d hk =>
          obtain ⟨z, z1, z2⟩ := atI_rep (rl.ext s1.ext) hk
          have hm := h3 a List.mem_cons_self
          have ha' : H2 a = some (.lst vs) := (s1.fr a (ho.th a hm) (ho.fp a hm) (by simp)).trans ha
          exact ⟨a, vs, k, z, rfl, rfl, SqL.of ha', z1, h4.here z2 S1⟩
        · exact h4.elim
      · exact h4.elim
  · exact h.elim
/-- len(x), x an own list at slot i -/
def vLenO (i : Nat) : En → Store → Res D := fun env st => match env[i]? with
  | some (.ol ds) => .ok (.int ds.length) st
  | _ => .stuck
theorem e_lenO (i : Nat) {x : Str} {xpos p : Pos} (hN : X.N[i]? = some x) (hv : Vis X.env.scope x) (hg : Gl X "len") (hm : X.mg "len" = none) (hs : starEach [.Name x xpos] X.env = (false, eval (.Name x xpos) X.env) :: starEach [] X.env := by rfl) (hpl : (backTo pos (starEach [] X.env)).any (·.1) = false := by rfl) (hd : (x == ("__debug__" : Str)) = false := by decide) (hcd : (x == ("__classdict__" : Str)) = false := by decide) :
    EE X W (.Call (.Name "len" p) [.Name x xpos] [] pos) (vLenO i) := by
  refine ⟨fun pins s σ H Q I h => ?_⟩
  obtain ⟨g, env, st, os, he, ho, hS, h⟩ := h
  unfold vLenO at h
  split at h
  · next ds hd' =>
    obtain ⟨o, l, h1, h2, h3⟩ := he.get hd'
    cases h2 with
    | @ol _ a vs ha rl => exact (pe_callB call_len hg hm PySem.boot_len (pa_cons (pe_var hN hv hd hcd) pa_nil hs) (he := hs) (hpl := hpl)).run pins s σ H Q I ⟨_, h1, _, _, rfl, .inl ⟨vs, SqL.of ha, rfl⟩, by rw [← rl.length]; exact h.here (.int _) hS⟩
  · exact h.elim

/-! ### slices -/
def cutD {α : Type} (xs : List α) (lo hi : Option Int) : List α := (xs.drop (HT.sIx xs.length 0 lo)).take (HT.sIx xs.length xs.length hi - HT.sIx xs.length 0 lo)
abbrev OE (X : Cx) (W : Wi) (e : Option Expr) (f : En → Store → Res (Option Int)) : Prop := PO X e (fun σ H Q => At X.K X.mg (fun g env st _ => Post X.K X.mg (fun _ a v => a = v) W g H σ (f env st) Q) σ H)
def vNoP : En → Store → Res (Option Int) := fun _ st => .ok none st
def vSoP (f : En → Store → Res D) : En → Store → Res (Option Int) := fun env st => (f env st).bind fun d st => match d with
  | .int i => .ok (some i) st
  | _ => .stuck
theorem o_none : OE X W none vNoP := by
  refine ⟨fun pins s σ H Q I h => ?_⟩
  obtain ⟨g, env, st, os, he, ho, hS, h⟩ := h
  exact po_none.run pins s σ H Q I (h.here rfl hS)
theorem o_some (hp : EE X W e fa) : OE X W (some e) (vSoP fa) := by
  refine ⟨fun pins s σ H Q I h => ?_⟩
  obtain ⟨g, env, st, os, he, ho, hS, h⟩ := h
  refine (po_some hp).run pins s σ H Q I ⟨g, env, st, os, he, ho, hS, (Post.bind h).imp fun v H1 q => ?_⟩
  obtain ⟨g1, x, st1, s1, r, S1, h1⟩ := q
  cases r with
  | int i => exact ⟨i, rfl, h1.here rfl S1⟩
  | _ => exact (h1 : False).elim
def slF (d : D) (lo hi : Option Int) : Option D := match d with
  | .lst ds => some (.lst (cutD ds lo hi))
  | .tup ds => some (.tup (cutD ds lo hi))
  | _ => none
def vSlice (fa : En → Store → Res D) (fl fh : En → Store → Res (Option Int)) : En → Store → Res D := fun env st => (fa env st).bind fun x st => (fl env st).bind fun lo st => (fh env st).bind fun hi st => match slF x lo hi with
  | some d => .ok d st
  | none => .stuck
theorem cutD_all {α : Type} (xs : List α) (lo hi : Option Int) (h1 : HT.sIx xs.length 0 lo = 0) (h2 : HT.sIx xs.length xs.length hi = xs.length) : cutD xs lo hi = xs := by
  unfold cutD
  rw [h1, h2]
  simp
theorem RepL.cut {K : PySem.W.Frag} {mg : Str → Option Value} {g : G} {ds : List D} {vs : List V} (r : RepL K mg g ds vs) (lo hi : Option Int) : RepL K mg g (cutD ds lo hi) (cutV vs lo hi) := by
  unfold cutD cutV
  rw [r.length]
  exact (r.drop _).take _
theorem e_slice {lo hi : Option Expr} {fl fh : En → Store → Res (Option Int)} {p2 : Pos} (ha : EE X W a fa) (hl : OE X W lo fl) (hh : OE X W hi fh) : EE X W (.Subscript a (.Slice lo hi none p2) pos) (vSlice fa fl fh) := by
  refine ⟨fun pins s σ H Q I h => ?_⟩
  obtain ⟨g, env, st, os, he, ho, hS, h⟩ := h
  refine (pe_slice (sl_list.or sl_tupA) ha hl hh).run pins s σ H Q I ⟨g, env, st, os, he, ho, hS, (Post.bind h).imp fun v H1 q => ?_⟩
  obtain ⟨g1, x, st1, s1, rx, S1, h1⟩ := q
  have he1 := he.step' ho s1
  have ho1 := ho.step s1
  refine ⟨g1, env, st1, os, he1, ho1, S1, (Post.bind h1).imp fun l H2 q => ?_⟩
  obtain ⟨g2, l', st2, s2, rl, S2, h2⟩ := q
  cases rl
  refine ⟨g2, env, st2, os, he1.step' ho1 s2, ho1.step s2, S2, (Post.bind h2).imp fun u H3 q => ?_⟩
  obtain ⟨g3, u', st3, s3, ru, S3, h3⟩ := q
  cases ru
  have rx3 := (rx.ext s2.ext).ext s3.ext
  cases x with
  | lst ds =>
    cases rx3 with
    | lst hx r => exact .inl ⟨_, _, rfl, SqL.of (S3.kp _ _ hx), fun p hp => Post.newLst h3 S3 (r.cut _ _) hp⟩
  | tup ds =>
    cases rx3 with
    | tup hx r =>
      refine .inr ⟨_, _, rfl, S3.sqT hx, fun w => ?_, fun _ p hp => Post.newTup h3 S3 (r.cut _ _) hp⟩
      have h3' : Post X.K X.mg (Rep X.K X.mg) W g3 H3 σ (.ok (.tup (cutD ds l u)) st3) Q := h3
      rw [cutD_all ds l u (by rw [r.length]; exact w.1) (by rw [r.length]; exact w.2)] at h3'
      exact h3'.here (.tup hx r) S3
  | _ => exact (h3 : False).elim
/-- x[::-1] -/
def revF : D → Store → Res D := fun x st => match x with
  | .lst ds => .ok (.lst ds.reverse) st
  | .tup ds => .ok (.tup ds.reverse) st
  | _ => .stuck
theorem e_rev {k : Nat} {p1 p2 p3 : Pos} (ha : EE X W e fa) : EE X W (.Subscript e (.Slice none none (some (.UnaryOp .USub (.Constant (.int 1) k p1) p2)) p3) pos) (v1 revF fa) := by
  refine ⟨fun pins s σ H Q I h => ?_⟩
  obtain ⟨g, env, st, os, he, ho, hS, h⟩ := h
  refine Subscript_ (thn (ha.run pins s σ H _ I ⟨g, env, st, os, he, ho, hS, Post.bind h⟩) fun v s1 ⟨x, H1, I1, r1, q1⟩ => ?_)
  obtain ⟨g1, d, st1, s1', rd, S1, h1⟩ := q1
  have hst : PO X (some (.UnaryOp .USub (.Constant (.int 1) k p1) p2)) (tPart (tUn (rU fun i => .int (-i)) (L2.tC (.int 1)))) := po_some (pe_un un_neg pe_int)
  refine wpAny_Slice (thn (po_none.run pins s1 σ H1 (fun o H2 => o = none ∧ H2 = H1) I1 ⟨rfl, rfl⟩) fun vl s2 ⟨l, H2, I2, pl, el, e2⟩ => ?_)
  subst el e2
  refine thn (po_none.run pins s2 σ H2 (fun o H3 => o = none ∧ H3 = H2) I2 ⟨rfl, rfl⟩) fun vu s3 ⟨u, H3, I3, pu, eu, e3⟩ => ?_
  subst eu e3
  refine thn (hst.run pins s3 σ H3 (fun o H4 => o = some (-1) ∧ H4 = H3) I3 ⟨1, rfl, -1, rfl, rfl, rfl⟩) fun vs s4 ⟨o, H4, I4, ps, eo, e4⟩ => ?_
  subst eo e4
  have I5 : L2.Inv X pins σ H4 { s4 with heap := s4.heap.push { cls := .type "slice", data := .fields #[vl, vu, vs] } } := I4.kept (t' := s4.toks) fun b ob q => Heap.get?_push_of_some _ q
  cases d with
  | lst ds =>
    cases rd with
    | lst hx rl =>
      cases r1
      obtain ⟨its, r, ht, hz⟩ := I5.list (SqL.of (S1.kp _ _ hx))
      have hlen := r.length
      show wpAny (model X.prog X.w) X.A (subscriptTail e (.Slice none none (some (.UnaryOp .USub (.Constant (.int 1) k p1) p2)) p3) (.ref _) (.ref s4.heap.objs.size)) (EP X pins σ Q) X.xe { s4 with heap := s4.heap.push { cls := .type "slice", data := .fields #[vl, vu, vs] } }
      refine tail_any (ops := [.ref _, .ref s4.heap.objs.size]) ht.isList.typeIs (PySem.slot_list_getitem.lookup) ?_ (by with_unfolding_all rfl)
      refine wpAny_getItem_list_slice ht.isList (Heap.IsSliceOf.new _ vl vu vs) pl pu ps (by decide) ?_ (by rw [List.size_toArray]; omega)
      rw [PySem.W.krv_pick]
      refine ⟨.ref _, _, I5.laid (t' := s4.toks) (o := .lst _) (fun b ob q => Heap.get?_push_of_some _ q) (Nat.le_refl _) ?_, rfl, Post.newLst h1 S1 rl.reverse (I5.hok.fresh (Nat.le_refl _))⟩
      exact ⟨by rw [List.length_reverse]; exact hz, _, 0, r.reverse, Heap.get?_push_size _ rfl⟩
  | tup ds =>
    cases rd with
    | tup hx rl =>
      cases r1
      obtain ⟨its, r, ht, hz⟩ := I5.tuple (S1.sqT hx)
      have hlen := r.length
      show wpAny (model X.prog X.w) X.A (subscriptTail e (.Slice none none (some (.UnaryOp .USub (.Constant (.int 1) k p1) p2)) p3) (.ref _) (.ref s4.heap.objs.size)) (EP X pins σ Q) X.xe { s4 with heap := s4.heap.push { cls := .type "slice", data := .fields #[vl, vu, vs] } }
      refine tail_any (ops := [.ref _, .ref s4.heap.objs.size]) ht.typeIs PyProof.Rows.slot_tuple_getitem.lookup ?_ (by with_unfolding_all rfl)
      refine getItem_tuple_rev ht (Heap.IsSliceOf.new _ vl vu vs) pl pu ps ?_ (by rw [List.size_toArray]; omega)
      refine ⟨.ref _, _, I5.laid (t' := s4.toks) (o := .tup _) (fun b ob q => Heap.get?_push_of_some _ q) (Nat.le_refl _) ?_, rfl, Post.newTup h1 S1 rl.reverse (I5.hok.fresh (Nat.le_refl _))⟩
      exact ⟨by rw [List.length_reverse]; exact hz, _, r.reverse, IsTup.new _ _⟩
  | _ => exact (h1 : False).elim

/-! ### calls of built-ins -/
variable {es : List Expr} {f : En → Store → Res (List D)} {x : Str} {p : Pos}
theorem e_callB {id : String} {F : List D → Store → Res D} (hc : OpL X (.builtin id) F) (hg : Gl X x) (hm : X.mg x = none) (hv : bootBuiltins x = some (.builtin id)) (ha : AE X W (e :: es) f) (hn : x ≠ "__name__" := by decide) (hdb : (x == ("__debug__" : Str)) = false := by decide)
    (he : starEach (e :: es) X.env = (false, eval e X.env) :: starEach es X.env := by rfl) (hpl : (backTo pos (starEach es X.env)).any (·.1) = false := by rfl) : EE X W (.Call (.Name x p) (e :: es) [] pos) (vA F f) := by
  refine ⟨fun pins s σ H Q I h => ?_⟩
  obtain ⟨g, env, st, os, hv', ho, hS, h⟩ := h
  refine wpAny_Call_Name_kw (ld_blt I hg hm hv ?_ hn hdb)
  refine PyProof.Rows.callWith_builtin1 (thn (ha.run pos pins s σ H _ I ⟨g, env, st, os, hv', ho, hS, Post.bind h⟩) fun us s1 ⟨vs, H1, I1, r1, q1⟩ => ?_) he hpl
  obtain ⟨g1, ds, st1, s1', rd, S1, h1⟩ := q1
  exact hc W pins s1 σ H1 g1 st1 ds vs us Q I1 S1 rd r1 h1
theorem e_callTy {T : String} {F : List D → Store → Res D} (hc : OpL X (.type T) F) (hg : Gl X x) (hm : X.mg x = none) (hv : bootBuiltins x = some (.type T)) (ha : AE X W (e :: es) f) (hn : x ≠ "__name__" := by decide) (hdb : (x == ("__debug__" : Str)) = false := by decide)
    (he : starEach (e :: es) X.env = (false, eval e X.env) :: starEach es X.env := by rfl) (hpl : (backTo pos (starEach es X.env)).any (·.1) = false := by rfl) : EE X W (.Call (.Name x p) (e :: es) [] pos) (vA F f) := by
  refine ⟨fun pins s σ H Q I h => ?_⟩
  obtain ⟨g, env, st, os, hv', ho, hS, h⟩ := h
  refine wpAny_Call_Name_kw (ld_blt I hg hm hv ?_ hn hdb)
  refine PyProof.Rows.callWith_type1 (thn (ha.run pos pins s σ H _ I ⟨g, env, st, os, hv', ho, hS, Post.bind h⟩) fun us s1 ⟨vs, H1, I1, r1, q1⟩ => ?_) he hpl
  obtain ⟨g1, ds, st1, s1', rd, S1, h1⟩ := q1
  exact hc W pins s1 σ H1 g1 st1 ds vs us Q I1 S1 rd r1 h1
theorem s_callB {id : String} {F : List D → Store → Res Slot} (hc : OpLS X (.builtin id) F) (hg : Gl X x) (hm : X.mg x = none) (hv : bootBuiltins x = some (.builtin id)) (ha : AE X W (e :: es) f) (hn : x ≠ "__name__" := by decide) (hdb : (x == ("__debug__" : Str)) = false := by decide)
    (he : starEach (e :: es) X.env = (false, eval e X.env) :: starEach es X.env := by rfl) (hpl : (backTo pos (starEach es X.env)).any (·.1) = false := by rfl) : SE X W (.Call (.Name x p) (e :: es) [] pos) (vA F f) := by
  refine ⟨fun pins s σ H Q I h => ?_⟩
  obtain ⟨g, env, st, os, hv', ho, hS, h⟩ := h
  refine wpAny_Call_Name_kw (ld_blt I hg hm hv ?_ hn hdb)
  refine PyProof.Rows.callWith_builtin1 (thn (ha.run pos pins s σ H _ I ⟨g, env, st, os, hv', ho, hS, Post.bindS h⟩) fun us s1 ⟨vs, H1, I1, r1, q1⟩ => ?_) he hpl
  obtain ⟨g1, ds, st1, s1', rd, S1, h1⟩ := q1
  exact hc W pins s1 σ H1 g1 st1 ds vs us Q I1 S1 rd r1 h1
theorem s_callTy {T : String} {F : List D → Store → Res Slot} (hc : OpLS X (.type T) F) (hg : Gl X x) (hm : X.mg x = none) (hv : bootBuiltins x = some (.type T)) (ha : AE X W (e :: es) f) (hn : x ≠ "__name__" := by decide) (hdb : (x == ("__debug__" : Str)) = false := by decide)
    (he : starEach (e :: es) X.env = (false, eval e X.env) :: starEach es X.env := by rfl) (hpl : (backTo pos (starEach es X.env)).any (·.1) = false := by rfl) : SE X W (.Call (.Name x p) (e :: es) [] pos) (vA F f) := by
  refine ⟨fun pins s σ H Q I h => ?_⟩
  obtain ⟨g, env, st, os, hv', ho, hS, h⟩ := h
  refine wpAny_Call_Name_kw (ld_blt I hg hm hv ?_ hn hdb)
  refine PyProof.Rows.callWith_type1 (thn (ha.run pos pins s σ H _ I ⟨g, env, st, os, hv', ho, hS, Post.bindS h⟩) fun us s1 ⟨vs, H1, I1, r1, q1⟩ => ?_) he hpl
  obtain ⟨g1, ds, st1, s1', rd, S1, h1⟩ := q1
  exact hc W pins s1 σ H1 g1 st1 ds vs us Q I1 S1 rd r1 h1
/-- a value where a fresh thing may be -/
theorem s_val (h : EE X W e fa) : SE X W e (vSl fa) := by
  refine ⟨fun pins s σ H Q I hq => ?_⟩
  obtain ⟨g, env, st, os, he, ho, hs, hq⟩ := hq
  refine h.run pins s σ H Q I ⟨g, env, st, os, he, ho, hs, (Post.bindS (R := Rep X.K X.mg) hq).imp fun v H1 q => ?_⟩
  obtain ⟨g1, d, st1, s1, r, S1, h1⟩ := q
  exact h1 v g1 H1 [] Step.refl osOk_nil (.vl r) S1
end
end EV

set_option Elab.async false
set_option linter.all false
set_option autoImplicit false
set_option maxRecDepth 100000
set_option maxHeartbeats 400000
/-! lists that change; what is walked; comprehensions -/
namespace EV
open PySem PySem.Spec PyProof.Rows L2

section
variable {K : PySem.W.Frag} {mg : Str → Option Value} {g : G} {H : Hp} {os : List Addr} {σ : L2.St} {st : Store}
/-- an own list is written -/
theorem EnvOk.write {env : En} {i : Nat} {ds ds' : List D} {a : Addr} {vs' : List V} (he : EnvOk K mg g H env σ os) (nd : os.Nodup) (hi : env[i]? = some (.ol ds)) (hσ : σ[i]? = some (some (.ref a))) (r : RepL K mg g ds' vs') :
    ∃ os', EnvOk K mg g (upd H a (.lst vs')) (env.set i (.ol ds')) σ os' ∧ (∀ x ∈ os', x ∈ os) ∧ os'.Nodup ∧ a ∈ os := by
  obtain ⟨o, l, os1, os2, h1, h2, h3, h4⟩ := he.at_ hi
  rw [hσ] at h1
  cases h1
  cases h2 with
  | @ol _ _ vs ha rl =>
    have e1 := h4 .un (some (.ref a)) [] (.un _)
    have hset : σ.set i (some (V.ref a)) = σ := by
      obtain ⟨hi, hv⟩ := List.getElem?_eq_some_iff.mp hσ
      rw [← hv, List.set_getElem_self]
    rw [hset] at e1
    subst h3
    simp only [List.nodup_append, List.mem_append, List.mem_singleton] at nd
    have hne : ∀ x ∈ os1 ++ ([] ++ os2), x ≠ a := fun x hx z => by
      subst z
      simp only [List.nil_append, List.mem_append] at hx
      rcases hx with hx | hx
      · exact nd.2.2 x hx x (.inl rfl) rfl
      · exact nd.2.1.2.2 x rfl x hx rfl
    have e2 := e1.step (Ext.refl g) (H' := upd H a (.lst vs')) fun x hx => upd_ne (hne x hx)
    obtain ⟨os', q1, q2, q3⟩ := e2.set (s := .ol ds') (o := some (.ref a)) (l := [a]) (.ol upd_same r) i
    rw [hset] at q1
    refine ⟨os', by rw [List.set_set] at q1; exact q1, fun x hx => ?_, q3 ?_, by simp⟩
    · have := q2 x hx
      simp only [List.mem_append, List.mem_singleton, List.nil_append] at this ⊢
      rcases this with z | z | z
      · exact .inr (.inl z)
      · exact .inl z
      · exact .inr (.inr z)
    · rw [List.nodup_append]
      refine ⟨by simp, ?_, fun x hx y hy => ?_⟩
      · simp only [List.nil_append, List.nodup_append]
        exact ⟨nd.1, nd.2.1.2.1, fun x hx y hy => nd.2.2 x hx y (.inr hy)⟩
      · have : x = a := by simpa using hx
        subst this
        exact fun e => hne y hy e.symm
theorem SOk.wrO {a : Addr} {o : HO} (S : SOk K mg g st H) (hk : g.kp a = none) (hf : a ∉ g.fp) : SOk K mg g st (upd H a o) := by
  refine ⟨fun x u h => ?_, S.nd, S.fr, fun x hx => ?_, S.ob.step (Ext.refl g) fun x hx => upd_ne (by rintro rfl; exact hf hx)⟩
  · rw [upd_ne (by rintro rfl; rw [hk] at h; cases h)]
    exact S.kp x u h
  · rw [upd_ne (by rintro rfl; exact hf hx)]
    exact S.th x hx
theorem Step.wrO {a : Addr} {o : HO} (hm : a ∈ os) (th : H a ≠ none) {os' : List Addr} (hs : ∀ x ∈ os', x ∈ os) : Step g H os g (upd H a o) os' :=
  ⟨Ext.refl g, fun x _ _ ho => upd_ne (by rintro rfl; exact ho hm), fun x hx => by
    by_cases e : x = a
    · subst e; rw [upd_same]; simp
    · rw [upd_ne e]; exact hx, fun _ h => .inl h, fun _ h => .inl h, fun x h => .inl (hs x h)⟩
theorem StOk.set {H' : Hp} {o' : SObj} : ∀ {st : Store} {m : List (Addr × List Addr)} {n : Nat} {p : Addr × List Addr}, StOk K mg g H st m → m[n]? = some p → (fpOf m).Nodup → (∀ x, x ∉ p.2 → H' x = H x) → ObOk K mg g H' o' p → StOk K mg g H' (st.set n o') m
  | _, _, _, _, .nil, e, _, _, _ => by simp at e
  | _, _, 0, p, .cons (p := q) (m := m) h t, e, nd, k, ob => by
    have : q = p := by simpa using e
    subst this
    rw [fpOf_cons, List.nodup_append] at nd
    exact .cons ob (t.step (Ext.refl g) fun x hx => k x fun z => nd.2.2 x z x hx rfl)
  | _, _, n + 1, p, .cons (p := q) (m := m) h t, e, nd, k, ob => by
    rw [fpOf_cons, List.nodup_append] at nd
    have e' : m[n]? = some p := by simpa using e
    refine .cons (h.step (Ext.refl g) fun x hx => k x fun z => nd.2.2 x hx x ?_ rfl) (StOk.set t e' nd.2.1 k ob)
    unfold fpOf
    rw [List.mem_flatMap]
    exact ⟨p, List.mem_of_getElem? e', z⟩
/-- a list of the store is written -/
theorem SOk.wrR {n : Nat} {a : Addr} {ds' : List D} {vs' : List V} (S : SOk K mg g st H) (hm : g.m[n]? = some (a, [a])) (r : RepL K mg g ds' vs') :
    SOk K mg g (st.set n (.cell (.ol ds'))) (upd H a (.lst vs')) ∧ Step g H [] g (upd H a (.lst vs')) [] := by
  have hf : a ∈ g.fp := List.mem_flatMap.mpr ⟨(a, [a]), List.mem_of_getElem? hm, by simp⟩
  have hk := S.fr a hf
  refine ⟨⟨fun x u h => ?_, S.nd, S.fr, fun x hx => ?_, S.ob.set hm S.nd (fun x hx => upd_ne (by simpa using hx)) (.cell (.ol upd_same r))⟩, ⟨Ext.refl g, fun x _ hx _ => upd_ne (by rintro rfl; exact hx hf), fun x hx => ?_, fun _ h => .inl h, fun _ h => .inl h, fun _ h => nomatch h⟩⟩
  · rw [upd_ne (by rintro rfl; rw [hk] at h; cases h)]
    exact S.kp x u h
  · by_cases e : x = a
    · subst e; rw [upd_same]; simp
    · rw [upd_ne e]; exact S.th x hx
  · by_cases e : x = a
    · subst e; rw [upd_same]; simp
    · rw [upd_ne e]; exact hx
end

section
variable {X : Cx} {W : Wi} {e o : Expr} {fe fo fi : En → Store → Res D} {pos : Pos}
/-- x.append(e), x an own list at slot i -/
def sApp (i : Nat) (fe : En → Store → Res D) : En → Store → ResS := fun env st => match env[i]? with
  | some (.ol ds) => (fe env st).go env fun d st => if ds.length < sizeLine then .nx (env.set i (.ol (ds ++ [d]))) st else .stuck
  | _ => .stuck
theorem st_app (i : Nat) {x : Str} {xpos apos cpos : Pos} (hN : X.N[i]? = some x) (hv : Vis X.env.scope x) (he : EE X W e fe)
    (hbase : attributeBase (.Name x xpos) "append" X.env (eval (.Name x xpos) X.env) = eval (.Name x xpos) X.env := by rfl)
    (hfew : ((backTo cpos (starEach [e] X.env)).all (fun x => !x.1) && (backToKw cpos (keywordEach [] X.env)).all (fun x => x.1.isSome)
      && decide ([e].length + ([] : List Keyword).length + (if ([] : List Keyword).isEmpty then 0 else 1) < 30)) = true := by rfl)
    (hline : (apos.endLine == cpos.line) = true := by rfl) (hs : starEach [e] X.env = (false, eval e X.env) :: starEach [] X.env := by rfl) (hplain : (backTo cpos (starEach [] X.env)).any (·.1) = false := by rfl)
    (hd : (x == ("__debug__" : Str)) = false := by decide) (hcd : (x == ("__classdict__" : Str)) = false := by decide) :
    ST X W (.Expr (.Call (.Attribute (.Name x xpos) "append" apos) [e] [] cpos) pos) (sApp i fe) := by
  refine ⟨fun pins s σ H D I h => ?_⟩
  obtain ⟨g, env, st, os, hv', ho, hS, h⟩ := h
  unfold sApp at h
  split at h
  · next ds hi =>
    obtain ⟨o, l, h1, h2, h3⟩ := hv'.get hi
    cases h2 with
    | @ol _ a vs ha rl =>
      have hm := h3 a List.mem_cons_self
      refine (ps_expr (pe_bm PySem.F.plainAttrs_list PySem.F.slot_list_append PySem.F.type_list_append mt_append (pe_var hN hv hd hcd) (pa_cons he pa_nil hs) hbase hfew hline hs hplain)).run pins s σ H D I
        ⟨_, h1, .inl ⟨rfl, _, SqL.of ha⟩, g, env, st, os, hv', ho, hS, (PostSt.go hv' ho h).imp fun v H1 q => ?_⟩
      obtain ⟨g1, d, st1, s1, r, S1, e1, o1, h4⟩ := q
      split at h4
      · next hz =>
        have ha1 : H1 a = some (.lst vs) := (s1.fr a (ho.th a hm) (ho.fp a hm) (by simp)).trans ha
        refine ⟨a, vs, v, rfl, rfl, ha1, by rw [← rl.length]; exact hz, ?_⟩
        obtain ⟨os', q1, q2, q3, _⟩ := e1.write o1.nd hi h1 (r := (rl.ext s1.ext).append (.cons r .nil))
        have o2 := o1.sub q2 q3
        exact h4 σ g1 _ os' (Step.wrO hm (o1.th a hm) q2) q1 ⟨q3, fun x hx => by
          by_cases z : x = a
          · subst z; rw [upd_same]; simp
          · rw [upd_ne z]; exact o2.th x hx, o2.kp, o2.fp⟩ (S1.wrO (o1.kp a hm) (o1.fp a hm))
      · exact (h4 : False).elim
  · exact (h : False).elim
/-- o.append(e), o an object of the store -/
def appR (o d : D) (st : Store) : Option Store := match o with
  | .ref n => match st[n]? with
    | some (.cell (.ol ds)) => if ds.length < sizeLine then some (st.set n (.cell (.ol (ds ++ [d])))) else none
    | _ => none
  | _ => none
def DK.isT : DK → Bool
  | .k _ => false
  | .t _ => true
def setR (o i d : D) (st : Store) : Option Store := match o with
  | .ref n => match st[n]? with
    | some (.cell (.ol ds)) => match i with
      | .int k => match ixN ds.length k with
        | some j => some (st.set n (.cell (.ol (ds.set j d))))
        | none => none
      | _ => none
    | some (.cell (.od t kvs)) => match dkOf i with
      | some k => if k.isT = t ∧ kvs.length < sizeLine then some (st.set n (.cell (.od t (putD kvs k d)))) else none
      | none => none
    | _ => none
  | _ => none
theorem nodup_put {k : DK} {d : D} : ∀ {kvs : List (DK × D)}, (kvs.map (·.1)).Nodup → ((putD kvs k d).map (·.1)).Nodup ∧ ∀ x ∈ (putD kvs k d).map (·.1), x ∈ kvs.map (·.1) ∨ x = k
  | [], _ => ⟨by simp [putD], fun x hx => .inr (by simpa [putD] using hx)⟩
  | (x, e) :: r, nd => by
    have nd' := List.nodup_cons.mp nd
    obtain ⟨i1, i2⟩ := nodup_put (k := k) (d := d) nd'.2
    unfold putD
    by_cases h : x = k
    · rw [if_pos h]
      exact ⟨nd, fun y hy => .inl hy⟩
    · rw [if_neg h]
      refine ⟨List.nodup_cons.mpr ⟨fun z => (i2 x z).elim nd'.1 h, i1⟩, fun y hy => ?_⟩
      rcases List.mem_cons.mp hy with rfl | hy
      · exact .inl List.mem_cons_self
      · exact (i2 y hy).imp_left (List.mem_cons_of_mem _)
theorem len_put {k : DK} {d : D} : ∀ {kvs : List (DK × D)}, (putD kvs k d).length ≤ kvs.length + 1
  | [] => by simp [putD]
  | (x, e) :: r => by
    have := len_put (k := k) (d := d) (kvs := r)
    unfold putD
    split
    · simp
    · simp only [List.length_cons]; omega
theorem nodup_drop {k : DK} : ∀ {kvs : List (DK × D)}, (kvs.map (·.1)).Nodup → ((dropD kvs k).map (·.1)).Nodup ∧ ∀ x ∈ (dropD kvs k).map (·.1), x ∈ kvs.map (·.1)
  | [], _ => ⟨by simp [dropD], fun x hx => by simp [dropD] at hx⟩
  | (x, e) :: r, nd => by
    have nd' := List.nodup_cons.mp nd
    obtain ⟨i1, i2⟩ := nodup_drop (k := k) nd'.2
    unfold dropD
    by_cases h : x = k
    · rw [if_pos h]
      exact ⟨i1, fun y hy => List.mem_cons_of_mem _ (i2 y hy)⟩
    · rw [if_neg h]
      refine ⟨List.nodup_cons.mpr ⟨fun z => nd'.1 (i2 x z), i1⟩, fun y hy => ?_⟩
      rcases List.mem_cons.mp hy with rfl | hy
      · exact List.mem_cons_self
      · exact List.mem_cons_of_mem _ (i2 y hy)
theorem RepD.ndK {g : G} {K : PySem.W.Frag} {mg : Str → Option Value} {kvs : List (DK × D)} {zs : List (Key × V)} (r : RepD K mg g kvs (.dK zs)) (nd : (kvs.map (·.1)).Nodup) : (zs.map (·.1)).Nodup := by
  have e : ∀ {kvs : List (DK × D)} {zs : List (Key × V)}, RepD K mg g kvs (.dK zs) → kvs.map (·.1) = (zs.map (·.1)).map DK.k := by
    intro kvs
    induction kvs with
    | nil => intro zs r; cases r; rfl
    | cons p t ih => intro zs r; cases r with
      | consK _ q => simp [ih q]
  rw [e r] at nd
  exact List.Pairwise.of_map DK.k (fun a b h z => h (by rw [z])) nd
theorem RepD.ndT {g : G} {K : PySem.W.Frag} {mg : Str → Option Value} {kvs : List (DK × D)} {zs : List (List Key × V)} (r : RepD K mg g kvs (.dT zs)) (nd : (kvs.map (·.1)).Nodup) : (zs.map (·.1)).Nodup := by
  have e : ∀ {kvs : List (DK × D)} {zs : List (List Key × V)}, RepD K mg g kvs (.dT zs) → kvs.map (·.1) = (zs.map (·.1)).map DK.t := by
    intro kvs
    induction kvs with
    | nil => intro zs r; cases r; rfl
    | cons p t ih => intro zs r; cases r with
      | consT _ q => simp [ih q]
  rw [e r] at nd
  exact List.Pairwise.of_map DK.t (fun a b h z => h (by rw [z])) nd
section
variable {K : PySem.W.Frag} {mg : Str → Option Value} {g : G} {H : Hp} {st : Store}
/-- a cell of the store is written -/
theorem SOk.wrC {n : Nat} {a : Addr} {o : HO} {sl : Slot} (S : SOk K mg g st H) (hm : g.m[n]? = some (a, [a])) (so : SlotOk K mg g (upd H a o) sl (some (.ref a)) [a]) :
    SOk K mg g (st.set n (.cell sl)) (upd H a o) ∧ Step g H [] g (upd H a o) [] := by
  have hf : a ∈ g.fp := List.mem_flatMap.mpr ⟨(a, [a]), List.mem_of_getElem? hm, by simp⟩
  have hk := S.fr a hf
  refine ⟨⟨fun x u h => ?_, S.nd, S.fr, fun x hx => ?_, S.ob.set hm S.nd (fun x hx => upd_ne (by simpa using hx)) (.cell so)⟩, ⟨Ext.refl g, fun x _ hx _ => upd_ne (by rintro rfl; exact hx hf), fun x hx => ?_, fun _ h => .inl h, fun _ h => .inl h, fun _ h => nomatch h⟩⟩
  · rw [upd_ne (by rintro rfl; rw [hk] at h; cases h)]
    exact S.kp x u h
  · by_cases e : x = a
    · subst e; rw [upd_same]; simp
    · rw [upd_ne e]; exact S.th x hx
  · by_cases e : x = a
    · subst e; rw [upd_same]; simp
    · rw [upd_ne e]; exact hx
theorem key_rep {y : D} {vy : V} {k : DK} (S : SOk K mg g st H) (ry : Rep K mg g y vy) (hk : dkOf y = some k) : match k with | .k x => vy = kV x | .t xs => ∃ b, vy = .ref b ∧ H b = some (.tup (xs.map kV)) := by
  cases y with
  | int i => cases hk; cases ry; rfl
  | str z => cases hk; cases ry; rfl
  | tup ds =>
    have hk : (keysOf ds).map DK.t = some k := hk
    cases h : keysOf ds with
    | none => rw [h] at hk; cases hk
    | some ks =>
      rw [h] at hk
      cases hk
      cases ry with
      | tup ht rl => exact ⟨_, rfl, by rw [← keysOf_rep rl h]; exact (S.tupAt ht).tr⟩
  | _ => cases hk
/-- an entry is put -/
theorem SOk.putAt {y d : D} {vy vd : V} {k : DK} {kvs : List (DK × D)} {t : Bool} {n : Nat} {a : Addr} (S : SOk K mg g st H) (hm : g.m[n]? = some (a, [a])) (so : SlotOk K mg g H (.od t kvs) (some (.ref a)) [a]) (ry : Rep K mg g y vy) (rd : Rep K mg g d vd) (hk : dkOf y = some k) (ht : k.isT = t) (hz : kvs.length < sizeLine) :
    ∃ o, DPut H a vy vd (upd H a o) ∧ SOk K mg g (st.set n (.cell (.od t (putD kvs k d)))) (upd H a o) ∧ Step g H [] g (upd H a o) [] := by
  cases so with
  | @od _ _ _ o h3 rr hd nd =>
    have q := key_rep S ry hk
    cases k with
    | k x =>
      have q : vy = kV x := q
      subst q
      cases t with
      | true => cases ht
      | false =>
        cases o with
        | dK zs =>
          have r2 := RepD.putK_ (x := x) rd rr (rr.ndK nd)
          obtain ⟨S2, s2⟩ := S.wrC (o := .dK (putK zs x vd)) hm (.od upd_same r2 (show HO.isD false (.dK _) from trivial) (nodup_put nd).1)
          exact ⟨_, DPut.k h3 (by rw [← rr.lenK]; exact hz), S2, s2⟩
        | _ => exact (hd : False).elim
    | t xs =>
      obtain ⟨b, rfl, hb⟩ := q
      cases t with
      | false => cases ht
      | true =>
        cases o with
        | dT zs =>
          have r2 := RepD.putT_ (x := xs) rd rr (rr.ndT nd)
          obtain ⟨S2, s2⟩ := S.wrC (o := .dT (putK zs xs vd)) hm (.od upd_same r2 (show HO.isD true (.dT _) from trivial) (nodup_put nd).1)
          exact ⟨_, DPut.t h3 hb (by rw [← rr.lenT]; exact hz), S2, s2⟩
        | _ => exact (hd : False).elim
end
/-- a store into a list or a dict -/
def rSetA : TSet := fun o i v H Q => rSetL o i v H Q ∨ ∃ a H4, o = .ref a ∧ DPut H a i v H4 ∧ Q H4
theorem set_any {X : Cx} {k : Nat} (hr : Rm k X.A) : PSet X rSetA := by
  intro pins s σ H o i v ov iv u Q I ro ri rv h
  rcases h with h | ⟨a, H4, rfl, hp, q⟩
  · exact set_list pins s σ H o i v ov iv u Q I ro ri rv h
  · cases ro
    exact d_setItem (by have := hr.room.un; omega) I hp ri rv fun s' I' => ⟨H4, I', q⟩
/-- o[i] = .., o an object of the store -/
def gSubR (fo fi : En → Store → Res D) : D → En → Store → ResS := fun d env st => (fo env st).go env fun o st => (fi env st).go env fun i st => match setR o i d st with
  | some st => .nx env st
  | none => .stuck
theorem g_subR {k : Nat} (hr : Rm k X.A) {i : Expr} (ho : EE X W o fo) (hi : EE X W i fi)
    (ha : ∀ v, assign (.Subscript o i pos) X.env v = (do
      let ov ← holding [v] (eval o X.env)
      let iv ← holding [v, ov] (eval i X.env)
      standAt pos
      holding [v, ov, iv] (setItem ov iv v)
      release [v, ov, iv] []) := by intro _; rfl) : GE X W (.Subscript o i pos) (gSubR fo fi) := by
  refine ⟨fun pins s σ H v u Q I r h => ?_⟩
  obtain ⟨g, env, st, os, hv, hos, hS, d, rd, h⟩ := h
  refine (pg_sub ho hi (set_any hr) ha).run pins s σ H v u Q I r ⟨g, env, st, os, hv, hos, hS, (PostSt.go hv hos h).imp fun ov H1 q => ?_⟩
  obtain ⟨g1, od, st1, s1, ro, S1, e1, o1, h1⟩ := q
  refine ⟨g1, env, st1, os, e1, o1, S1, (PostSt.go e1 o1 h1).imp fun iv H2 q => ?_⟩
  obtain ⟨g2, id, st2, s2, ri, S2, e2, o2, h2⟩ := q
  have ro2 := ro.ext s2.ext
  have rd2 := (rd.ext s1.ext).ext s2.ext
  split at h2
  · next st3 hset =>
    unfold setR at hset
    split at hset
    · next n =>
      split at hset
      · next ds hn =>
        split at hset
        · next k =>
          cases ri
          split at hset
          · next j hj =>
            cases hset
            obtain ⟨a, vs, rfl, hm, hH, rl⟩ := S2.objL ro2 hn
            refine .inl ⟨a, vs, k, j, rfl, rfl, hH, by rw [← rl.length]; exact hj, ?_⟩
            obtain ⟨S3, s3⟩ := S2.wrR hm (rl.set rd2 j)
            exact h2 σ g2 _ os (s3.frame os) (e2.step' o2 s3) (o2.step s3) S3
          · cases hset
        · cases hset
      · next t kvs hn =>
        split at hset
        · next k hk =>
          split at hset
          · next hz =>
            cases hset
            obtain ⟨a, rfl, hm, so⟩ := S2.cellAt ro2 hn
            obtain ⟨o', p, S3, s3⟩ := S2.putAt hm so ri rd2 hk hz.1 hz.2
            exact .inr ⟨a, _, rfl, p, h2 σ g2 _ os (s3.frame os) (e2.step' o2 s3) (o2.step s3) S3⟩
          · cases hset
        · cases hset
      · cases hset
    · cases hset
  · exact (h2 : False).elim
/-- x[e] = .., x an own list at slot i -/
def gSubO (i : Nat) (fi : En → Store → Res D) : D → En → Store → ResS := fun d env st => match env[i]? with
  | some (.ol ds) => (fi env st).go env fun k st => match k with
    | .int k => match ixN ds.length k with
      | some j => .nx (env.set i (.ol (ds.set j d))) st
      | none => .stuck
    | _ => .stuck
  | _ => .stuck
theorem g_subO (i : Nat) {x : Str} {xpos : Pos} {k : Expr} (hN : X.N[i]? = some x) (hv : Vis X.env.scope x) (hi : EE X W k fi)
    (ha : ∀ v, assign (.Subscript (.Name x xpos) k pos) X.env v = (do
      let ov ← holding [v] (eval (.Name x xpos) X.env)
      let iv ← holding [v, ov] (eval k X.env)
      standAt pos
      holding [v, ov, iv] (setItem ov iv v)
      release [v, ov, iv] []) := by intro _; rfl) (hd : (x == ("__debug__" : Str)) = false := by decide) (hcd : (x == ("__classdict__" : Str)) = false := by decide) : GE X W (.Subscript (.Name x xpos) k pos) (gSubO i fi) := by
  refine ⟨fun pins s σ H v u Q I r h => ?_⟩
  obtain ⟨g, env, st, os, hv', hos, hS, d, rd, h⟩ := h
  unfold gSubO at h
  split at h
  · next ds hi' =>
    obtain ⟨o, l, h1, h2, h3⟩ := hv'.get hi'
    cases h2 with
    | @ol _ a vs ha' rl =>
      have hm := h3 a List.mem_cons_self
      refine (pg_sub (pe_var hN hv hd hcd) hi set_list ha).run pins s σ H v u Q I r ⟨_, h1, g, env, st, os, hv', hos, hS, (PostSt.go hv' hos h).imp fun iv H1 q => ?_⟩
      obtain ⟨g1, kd, st1, s1, rk, S1, e1, o1, h4⟩ := q
      split at h4
      · next k' =>
        cases rk
        split at h4
        · next j hj =>
          have ha1 : H1 a = some (.lst vs) := (s1.fr a (hos.th a hm) (hos.fp a hm) (by simp)).trans ha'
          refine ⟨a, vs, k', j, rfl, rfl, ha1, by rw [← rl.length]; exact hj, ?_⟩
          obtain ⟨os', q1, q2, q3, _⟩ := e1.write o1.nd hi' h1 (r := (rl.ext s1.ext).set (rd.ext s1.ext) j)
          have o2 := o1.sub q2 q3
          exact h4 σ g1 _ os' (Step.wrO hm (o1.th a hm) q2) q1 ⟨q3, fun x hx => by
            by_cases z : x = a
            · subst z; rw [upd_same]; simp
            · rw [upd_ne z]; exact o2.th x hx, o2.kp, o2.fp⟩ (S1.wrO (o1.kp a hm) (o1.fp a hm))
        · exact (h4 : False).elim
      · exact (h4 : False).elim
  · exact (h : False).elim

/-! ### what is walked -/
theorem walks_list {K : PySem.W.Frag} {mg : Str → Option Value} {g : G} {a : Addr} {ds : List D} {vs : List V} (h : g.kp a = some (.lst vs)) (r : RepL K mg g ds vs) : Walks K mg (Itl K a) g ds := by
  intro g1 H st x S
  have hs : SqL K H a vs := SqL.of (S.kp _ _ (x.kp _ _ h))
  refine ⟨fun i hi => ⟨vs, hs, by rw [← r.length]; exact hi⟩, fun i d hd => ?_⟩
  obtain ⟨v, h1, h2⟩ := r.get hd
  refine ⟨⟨vs, v, hs, h1⟩, fun y H' hy => ?_⟩
  obtain ⟨rfl, hy⟩ := hy
  have := hy vs hs
  rw [h1] at this
  cases this
  exact ⟨g1, Step.refl, h2.ext x, S⟩
theorem walks_tup {K : PySem.W.Frag} {mg : Str → Option Value} {g : G} {a : Addr} {ds : List D} {vs : List V} (h : TupAt K g.kp a vs) (r : RepL K mg g ds vs) : Walks K mg (Itt K a) g ds := by
  intro g1 H st x S
  have hs : SqT K H a vs := S.sqT (tupAt_ext x h)
  refine ⟨fun i hi => ⟨vs, hs, by rw [← r.length]; exact hi⟩, fun i d hd => ?_⟩
  obtain ⟨v, h1, h2⟩ := r.get hd
  refine ⟨⟨vs, v, hs, h1⟩, fun y H' hy => ?_⟩
  obtain ⟨rfl, hy⟩ := hy
  have := hy vs hs
  rw [h1] at this
  cases this
  exact ⟨g1, Step.refl, h2.ext x, S⟩
def rngD (lo : Int) (n : Nat) : List D := (List.range n).map fun (i : Nat) => .int (lo + (i : Int))
theorem walks_rng {K : PySem.W.Frag} {mg : Str → Option Value} {g : G} {lo : Int} {n : Nat} : Walks K mg (Itr lo n) g (rngD lo n) := by
  intro g1 H st x S
  refine ⟨fun i hi => by show n ≤ i; simpa [rngD] using hi, fun i d hd => ?_⟩
  have hi : i < n := by
    have := (List.getElem?_eq_some_iff.mp hd).1
    simpa [rngD] using this
  have e : d = .int (lo + (i : Int)) := by
    simp [rngD, hi] at hd
    exact hd.symm
  subst e
  refine ⟨hi, fun y H' hy => ?_⟩
  obtain ⟨rfl, rfl⟩ := hy
  exact ⟨g1, Step.refl, .int _, S⟩
def seqF : D → Store → Res (List D) := fun d st => match d with
  | .lst ds => .ok ds st
  | .tup ds => .ok ds st
  | _ => .stuck
theorem PostI.bind {K : PySem.W.Frag} {mg : Str → Option Value} {α β : Type} {R' : G → α → β → Prop} {g : G} {H : Hp} {σ : L2.St} {r : Res α} {k : α → Store → Res (List D)} {R : It → Hp → Prop} (h : PostI K mg W g H σ (r.bind k) R) :
    Post K mg R' W g H σ r (Mid K mg R' g H fun g1 H1 a st1 => PostI K mg W g1 H1 σ (k a st1) R) := by
  cases r with
  | ok a st =>
    intro v g2 H2 s2 r S
    refine ⟨g2, a, st, s2, r, S, ?_⟩
    have h' : PostI K mg W g H σ (k a st) R := h
    show PostI K mg W g2 H2 σ (k a st) R
    generalize k a st = q at h' ⊢
    cases q with
    | ok ds st' => exact fun J g3 H3 s3 S3 w => h' J g3 H3 (s2.trans s3) S3 w
    | er x st' => exact fun g3 H3 s3 S3 => h' g3 H3 (s2.trans s3) S3
    | stuck => exact h'
  | er e st => exact h
  | stuck => exact h
theorem i_seq {tg : Expr} (he : EE X W e fe) : IE X W tg e (v1 seqF fe) := by
  refine ⟨fun pins s σ H R I h => ?_⟩
  obtain ⟨g, env, st, os, hv, ho, hS, h⟩ := h
  refine thn (he.run pins s σ H _ I ⟨g, env, st, os, hv, ho, hS, PostI.bind h⟩) fun v s1 ⟨x, H1, I1, r1, q1⟩ => ?_
  obtain ⟨g1, d, st1, s1', rd, S1, h1⟩ := q1
  cases d with
  | lst ds =>
    cases rd with
    | @lst a vs _ hx rl =>
      cases r1
      obtain ⟨its, rv, p, hz⟩ := I1.list (SqL.of (S1.kp _ _ hx))
      refine wpAny_pyIter_list p.isList ?_
      refine ⟨s1.heap.objs.size, [s1.heap.objs.size], _, _, H1, rfl, I1.kept (t' := s1.toks) fun b o e => Heap.get?_push_of_some _ e, turn_list a _, ⟨_, Heap.get?_push_size _ rfl, rfl, rfl⟩, fun b hb => ?_, h1 _ g1 H1 Step.refl S1 (walks_list hx rl)⟩
      have e : b = s1.heap.objs.size := by simpa using hb
      subst e
      exact I1.fpOk (Nat.le_refl _) (I1.hok.fresh (Nat.le_refl _))
  | tup ds =>
    cases rd with
    | @tup a vs _ hx rl =>
      cases r1
      obtain ⟨its, rv, p, hz⟩ := I1.tuple (S1.sqT hx)
      refine wpAny_pyIter_tuple (show s1.heap.IsTuple a its.toArray from p) ?_
      refine ⟨s1.heap.objs.size, [s1.heap.objs.size], _, _, H1, rfl, I1.kept (t' := s1.toks) fun b o e => Heap.get?_push_of_some _ e, turn_tuple a _, ⟨_, Heap.get?_push_size _ rfl, rfl, rfl⟩, fun b hb => ?_, h1 _ g1 H1 Step.refl S1 (walks_tup hx rl)⟩
      have e : b = s1.heap.objs.size := by simpa using hb
      subst e
      exact I1.fpOk (Nat.le_refl _) (I1.hok.fresh (Nat.le_refl _))
  | _ => exact (h1 : False).elim
def rng1F : List D → Store → Res (List D) := fun ds st => match ds with
  | [.int j] => if -(2 ^ 62) ≤ j ∧ j < 2 ^ 62 then .ok (rngD 0 j.toNat) st else .stuck
  | _ => .stuck
def rng2F : List D → Store → Res (List D) := fun ds st => match ds with
  | [.int i, .int j] => if -(2 ^ 62) ≤ i ∧ i < 2 ^ 62 ∧ -(2 ^ 62) ≤ j ∧ j < 2 ^ 62 then .ok (rngD i (j - i).toNat) st else .stuck
  | _ => .stuck
theorem i_range1 {tg : Expr} {fa : En → Store → Res (List D)} {p : Pos} (hg : Gl X "range") (hm : X.mg "range" = none) (ha : AE X W [e] fa) (hs : starEach [e] X.env = [(false, eval e X.env)] := by rfl) : IE X W tg (.Call (.Name "range" p) [e] [] pos) (vA rng1F fa) := by
  refine ⟨fun pins s σ H R I h => ?_⟩
  obtain ⟨g, env, st, os, hv, ho, hS, h⟩ := h
  refine (pi_range1 hg hm ha hs).run pins s σ H R I ⟨g, env, st, os, hv, ho, hS, (PostI.bind h).imp fun vs H1 q => ?_⟩
  obtain ⟨g1, ds, st1, s1, r, S1, h1⟩ := q
  unfold rng1F at h1
  split at h1
  · next j =>
    obtain ⟨v, rfl, rv⟩ := r.one
    cases rv
    split at h1
    · next hb => exact ⟨j, rfl, hb.1, hb.2, h1 _ g1 H1 Step.refl S1 walks_rng⟩
    · exact (h1 : False).elim
  · exact (h1 : False).elim
theorem i_range2 {tg a b : Expr} {fa : En → Store → Res (List D)} {p : Pos} (hg : Gl X "range") (hm : X.mg "range" = none) (ha : AE X W [a, b] fa) (hs : starEach [a, b] X.env = [(false, eval a X.env), (false, eval b X.env)] := by rfl) (hs2 : starEach [b] X.env = [(false, eval b X.env)] := by rfl) : IE X W tg (.Call (.Name "range" p) [a, b] [] pos) (vA rng2F fa) := by
  refine ⟨fun pins s σ H R I h => ?_⟩
  obtain ⟨g, env, st, os, hv, ho, hS, h⟩ := h
  refine (pi_range2 hg hm ha hs hs2).run pins s σ H R I ⟨g, env, st, os, hv, ho, hS, (PostI.bind h).imp fun vs H1 q => ?_⟩
  obtain ⟨g1, ds, st1, s1, r, S1, h1⟩ := q
  unfold rng2F at h1
  split at h1
  · next i j =>
    obtain ⟨v, w, rfl, rv, rw⟩ := r.two
    cases rv; cases rw
    split at h1
    · next hb => exact ⟨i, j, rfl, hb, h1 _ g1 H1 Step.refl S1 walks_rng⟩
    · exact (h1 : False).elim
  · exact (h1 : False).elim
end
end EV

set_option Elab.async false
set_option linter.all false
set_option autoImplicit false
set_option maxRecDepth 100000
set_option maxHeartbeats 400000
/-! patterns; comprehensions -/
namespace EV
open PySem PySem.Spec PyProof.Rows L2

inductive Pat where
  | n (i : Nat)
  | t (ps : List Pat)
mutual
def Pat.bind : Pat → D → Option (List (Nat × D))
  | .n i, d => some [(i, d)]
  | .t ps, .tup ds => Pat.binds ps ds
  | .t _, _ => none
def Pat.binds : List Pat → List D → Option (List (Nat × D))
  | [], [] => some []
  | p :: ps, d :: ds => match Pat.bind p d, Pat.binds ps ds with
    | some a, some b => some (a ++ b)
    | _, _ => none
  | _, _ => none
end
mutual
def Pat.tg (K : PySem.W.Frag) : Pat → TG
  | .n i => gName i
  | .t ps => gTup K ps.length (Pat.tgs K ps)
def Pat.tgs (K : PySem.W.Frag) : List Pat → TGs
  | [] => gNil
  | p :: ps => gCons (Pat.tg K p) (Pat.tgs K ps)
end
def setAll {α β : Type} (f : α → β) (l : List β) : List (Nat × α) → List β
  | [] => l
  | (i, d) :: r => setAll f (l.set i (f d)) r
theorem setAll_append {α β : Type} {f : α → β} : ∀ {a b : List (Nat × α)} {l : List β}, setAll f l (a ++ b) = setAll f (setAll f l a) b
  | [], _, _ => rfl
  | _ :: r, b, l => by show setAll f _ (r ++ b) = _; rw [setAll_append]; rfl
abbrev bindE (env : En) (bs : List (Nat × D)) : En := setAll Slot.vl env bs
abbrev bindS (σ : L2.St) (bs : List (Nat × V)) : L2.St := setAll (fun v => some v) σ bs
/-- what is bound -/
inductive RepB (K : PySem.W.Frag) (mg : Str → Option Value) (g : G) : List (Nat × D) → List (Nat × V) → Prop
  | nil : RepB K mg g [] []
  | cons {i : Nat} {d : D} {v : V} {bs : List (Nat × D)} {ws : List (Nat × V)} : Rep K mg g d v → RepB K mg g bs ws → RepB K mg g ((i, d) :: bs) ((i, v) :: ws)
section
variable {K : PySem.W.Frag} {mg : Str → Option Value} {g : G} {H : Hp} {st : Store}
theorem RepB.append : ∀ {a b : List (Nat × D)} {c d : List (Nat × V)}, RepB K mg g a c → RepB K mg g b d → RepB K mg g (a ++ b) (c ++ d)
  | _, _, _, _, .nil, s => s
  | _, _, _, _, .cons r t, s => .cons r (t.append s)
mutual
theorem Pat.reads (S : SOk K mg g st H) : ∀ (p : Pat) (d : D) (v : V) (bs : List (Nat × D)), Pat.bind p d = some bs → Rep K mg g d v → ∃ ws, RepB K mg g bs ws ∧ ∀ (σ : L2.St) (Q : L2.St → Hp → Prop), Q (bindS σ ws) H → Pat.tg K p v σ H Q
  | .n i, d, v, bs, e, r => by
    unfold Pat.bind at e
    cases e
    exact ⟨[(i, v)], .cons r .nil, fun σ Q q => by unfold Pat.tg; exact q⟩
  | .t ps, .tup ds, v, bs, e, r => by
    unfold Pat.bind at e
    cases r with
    | @tup a vs _ h rl =>
      obtain ⟨ws, h1, h2⟩ := Pat.readss S ps ds vs bs e rl
      refine ⟨ws, h1, fun σ Q q => ?_⟩
      unfold Pat.tg
      exact ⟨a, vs, rfl, S.sqT h, by rw [← rl.length]; exact (Pat.binds_length ps ds bs e).symm, h2 σ Q q⟩
  | .t _, .non, _, _, e, _ => by unfold Pat.bind at e; cases e
  | .t _, .bl _, _, _, e, _ => by unfold Pat.bind at e; cases e
  | .t _, .int _, _, _, e, _ => by unfold Pat.bind at e; cases e
  | .t _, .str _, _, _, e, _ => by unfold Pat.bind at e; cases e
  | .t _, .lst _, _, _, e, _ => by unfold Pat.bind at e; cases e
  | .t _, .dct _, _, _, e, _ => by unfold Pat.bind at e; cases e
  | .t _, .st _, _, _, e, _ => by unfold Pat.bind at e; cases e
  | .t _, .ref _, _, _, e, _ => by unfold Pat.bind at e; cases e
  | .t _, .fn _, _, _, e, _ => by unfold Pat.bind at e; cases e
  | .t _, .ty _, _, _, e, _ => by unfold Pat.bind at e; cases e
  | .t _, .scr _, _, _, e, _ => by unfold Pat.bind at e; cases e
theorem Pat.readss (S : SOk K mg g st H) : ∀ (ps : List Pat) (ds : List D) (vs : List V) (bs : List (Nat × D)), Pat.binds ps ds = some bs → RepL K mg g ds vs → ∃ ws, RepB K mg g bs ws ∧ ∀ (σ : L2.St) (Q : L2.St → Hp → Prop), Q (bindS σ ws) H → Pat.tgs K ps vs σ H Q
  | [], [], vs, bs, e, r => by
    unfold Pat.binds at e
    cases e
    cases r
    exact ⟨[], .nil, fun σ Q q => by unfold Pat.tgs; exact ⟨rfl, q⟩⟩
  | p :: ps, d :: ds, vs, bs, e, r => by
    unfold Pat.binds at e
    split at e
    · next a b ea eb =>
      cases e
      cases r with
      | @cons _ _ v vr r1 rr =>
        obtain ⟨w1, h1, h2⟩ := Pat.reads S p d v a ea r1
        obtain ⟨w2, h3, h4⟩ := Pat.readss S ps ds vr b eb rr
        refine ⟨w1 ++ w2, h1.append h3, fun σ Q q => ?_⟩
        unfold Pat.tgs
        refine ⟨v, vr, rfl, h2 σ _ (h4 _ Q ?_)⟩
        unfold bindS at q ⊢
        rw [setAll_append] at q
        exact q
    · cases e
  | [], _ :: _, _, _, e, _ => by unfold Pat.binds at e; cases e
  | _ :: _, [], _, _, e, _ => by unfold Pat.binds at e; cases e
theorem Pat.binds_length : ∀ (ps : List Pat) (ds : List D) (bs : List (Nat × D)), Pat.binds ps ds = some bs → ps.length = ds.length
  | [], [], _, _ => rfl
  | p :: ps, d :: ds, bs, e => by
    unfold Pat.binds at e
    split at e
    · next a b ea eb => simp [Pat.binds_length ps ds b eb]
    · cases e
  | [], _ :: _, _, e => by unfold Pat.binds at e; cases e
  | _ :: _, [], _, e => by unfold Pat.binds at e; cases e
end
mutual
def Pat.slots : Pat → List Nat
  | .n i => [i]
  | .t ps => Pat.slotss ps
def Pat.slotss : List Pat → List Nat
  | [] => []
  | p :: ps => Pat.slots p ++ Pat.slotss ps
end
mutual
theorem Pat.bind_slots : ∀ (p : Pat) (d : D) (bs : List (Nat × D)), Pat.bind p d = some bs → bs.map (·.1) = p.slots
  | .n i, d, bs, e => by unfold Pat.bind at e; cases e; rfl
  | .t ps, .tup ds, bs, e => by unfold Pat.bind at e; unfold Pat.slots; exact Pat.binds_slots ps ds bs e
  | .t _, .non, _, e => by unfold Pat.bind at e; cases e
  | .t _, .bl _, _, e => by unfold Pat.bind at e; cases e
  | .t _, .int _, _, e => by unfold Pat.bind at e; cases e
  | .t _, .str _, _, e => by unfold Pat.bind at e; cases e
  | .t _, .lst _, _, e => by unfold Pat.bind at e; cases e
  | .t _, .dct _, _, e => by unfold Pat.bind at e; cases e
  | .t _, .st _, _, e => by unfold Pat.bind at e; cases e
  | .t _, .ref _, _, e => by unfold Pat.bind at e; cases e
  | .t _, .fn _, _, e => by unfold Pat.bind at e; cases e
  | .t _, .ty _, _, e => by unfold Pat.bind at e; cases e
  | .t _, .scr _, _, e => by unfold Pat.bind at e; cases e
theorem Pat.binds_slots : ∀ (ps : List Pat) (ds : List D) (bs : List (Nat × D)), Pat.binds ps ds = some bs → bs.map (·.1) = Pat.slotss ps
  | [], [], _, e => by unfold Pat.binds at e; cases e; rfl
  | p :: ps, d :: ds, bs, e => by
    unfold Pat.binds at e
    split at e
    · next a b ea eb =>
      cases e
      unfold Pat.slotss
      rw [List.map_append, Pat.bind_slots p d a ea, Pat.binds_slots ps ds b eb]
    · cases e
  | [], _ :: _, _, e => by unfold Pat.binds at e; cases e
  | _ :: _, [], _, e => by unfold Pat.binds at e; cases e
end
theorem RepB.slots : ∀ {bs : List (Nat × D)} {ws : List (Nat × V)}, RepB K mg g bs ws → bs.map (·.1) = ws.map (·.1)
  | _, _, .nil => rfl
  | _, _, .cons _ t => by simp [RepB.slots t]
theorem wipe_set {σ : L2.St} {i : Nat} {o : Option V} : ∀ {vs : List Nat}, i ∈ vs → wipe (σ.set i o) vs = wipe σ vs
  | v :: vs, h => by
    unfold wipe
    by_cases e : i = v
    · subst e
      by_cases hm : i ∈ vs
      · rw [wipe_set hm]
      · have comm : ∀ (ws : List Nat), i ∉ ws → wipe (σ.set i o) ws = (wipe σ ws).set i o := by
          intro ws
          induction ws with
          | nil => intro _; rfl
          | cons w ws ih =>
            intro hw
            simp only [List.mem_cons, not_or] at hw
            show (wipe (σ.set i o) ws).set w none = ((wipe σ ws).set w none).set i o
            rw [ih hw.2, List.set_comm _ _ hw.1]
        rw [comm vs hm, List.set_set]
    · have hm : i ∈ vs := by simpa [e] using h
      rw [wipe_set hm]
theorem wipe_in {σ : L2.St} {i : Nat} : ∀ {vs : List Nat}, i ∈ vs → i < σ.length → (L2.wipe σ vs)[i]? = some none
  | v :: vs, h, hl => by
    unfold L2.wipe
    by_cases e : v = i
    · subst e
      rw [List.getElem?_set_self (by rw [wipe_length]; exact hl)]
    · rw [List.getElem?_set_ne e]
      exact wipe_in (by simpa [Ne.symm e] using h) hl
theorem wipe_idem {σ : L2.St} {vs : List Nat} : L2.wipe (L2.wipe σ vs) vs = L2.wipe σ vs := by
  apply List.ext_getElem?
  intro i
  by_cases hm : i ∈ vs
  · by_cases hl : i < σ.length
    · rw [wipe_in hm (by rw [wipe_length]; exact hl), wipe_in hm hl]
    · rw [List.getElem?_eq_none (by simp only [wipe_length]; omega), List.getElem?_eq_none (by simp only [wipe_length]; omega)]
  · rw [wipe_out hm]
theorem wipe_bind {vs : List Nat} : ∀ {ws : List (Nat × V)} {σ : L2.St}, (∀ i ∈ ws.map (·.1), i ∈ vs) → wipe (bindS σ ws) vs = wipe σ vs
  | [], _, _ => rfl
  | (i, v) :: r, σ, h => by
    show wipe (bindS (σ.set i (some v)) r) vs = _
    rw [wipe_bind fun j hj => h j (List.mem_cons_of_mem _ hj), wipe_set (h i List.mem_cons_self)]
def wipeE (env : En) : List Nat → En
  | [] => env
  | v :: vs => (wipeE env vs).set v .un
theorem EnvOk.wipe {env : En} {σ : L2.St} {os : List Addr} (h : EnvOk K mg g H env σ os) (ho : OsOk g H os) : ∀ vs : List Nat, ∃ os', EnvOk K mg g H (wipeE env vs) (L2.wipe σ vs) os' ∧ (∀ a ∈ os', a ∈ os) ∧ os'.Nodup
  | [] => ⟨os, h, fun _ h => h, ho.nd⟩
  | v :: vs => by
    obtain ⟨os1, h1, h2, h3⟩ := EnvOk.wipe h ho vs
    obtain ⟨os2, q1, q2, q3⟩ := h1.set (s := .un) (o := none) (l := []) (.un _) v
    exact ⟨os2, q1, fun a ha => h2 a (by simpa using q2 a ha), q3 (by simpa using h3)⟩
theorem EnvOk.binds {bs : List (Nat × D)} {ws : List (Nat × V)} (r : RepB K mg g bs ws) : ∀ {env : En} {σ : L2.St} {os : List Addr}, EnvOk K mg g H env σ os → OsOk g H os → ∃ os', EnvOk K mg g H (bindE env bs) (bindS σ ws) os' ∧ (∀ a ∈ os', a ∈ os) ∧ OsOk g H os' := by
  induction r with
  | nil => exact fun {env σ os} h ho => ⟨os, h, fun _ h => h, ho⟩
  | @cons i d v bs ws r t ih =>
    intro env σ os h ho
    obtain ⟨os1, q1, q2, q3⟩ := h.set (s := .vl d) (o := some v) (l := []) (.vl r) i
    have o1 := ho.sub (fun a ha => by simpa using q2 a ha) (q3 (by simpa using ho.nd))
    obtain ⟨os2, p1, p2, p3⟩ := ih q1 o1
    exact ⟨os2, p1, fun a ha => by simpa using q2 a (p2 a ha), p3⟩
end
/-- a pattern as a target of a for, an assignment -/
def gPat (p : Pat) : D → En → Store → ResS := fun d env st => match Pat.bind p d with
  | some bs => .nx (bindE env bs) st
  | none => .stuck
theorem g_pat {X : Cx} {W : Wi} {tg : Expr} {p : Pat} (h : PG X tg (Pat.tg X.K p)) : GE X W tg (gPat p) := by
  refine ⟨fun pins s σ H v u Q I r hw => ?_⟩
  obtain ⟨g, env, st, os, hv, ho, hS, d, rd, hw⟩ := hw
  unfold gPat at hw
  split at hw
  · next bs hb =>
    obtain ⟨ws, h1, h2⟩ := Pat.reads hS p d v bs hb rd
    refine h.run pins s σ H v u Q I r (h2 σ Q ?_)
    obtain ⟨os', q1, q2, q3⟩ := EnvOk.binds h1 hv ho
    exact hw _ g H os' (Step.refl.sub q2) q1 q3 hS
  · exact (hw : False).elim
theorem pat_n {X : Cx} {pos : Pos} (i : Nat) {x : Str} (hN : X.N.Nodup) (hi : X.N[i]? = some x) (hx : Loc X.env.scope x) (hf : X.fn x = true ∨ X.env.scope.names.lookup x = some .local := by first | exact .inl rfl | exact .inr rfl | assumption) : PG X (.Name x pos) (Pat.tg X.K (.n i)) := by
  unfold Pat.tg
  exact pg_name hN hi hx hf
theorem pats_nil {X : Cx} : PGs X [] (Pat.tgs X.K []) := by
  unfold Pat.tgs
  exact pgs_nil
theorem pats_cons {X : Cx} {e : Expr} {es : List Expr} {p : Pat} {ps : List Pat} (h1 : PG X e (Pat.tg X.K p)) (h2 : PGs X es (Pat.tgs X.K ps))
    (hs : (assignEach (e :: es) X.env).map (·.2) = assign e X.env :: (assignEach es X.env).map (·.2) := by rfl) : PGs X (e :: es) (Pat.tgs X.K (p :: ps)) := by
  unfold Pat.tgs
  exact pgs_cons h1 h2 hs
theorem pat_t {X : Cx} {es : List Expr} {j : Nat} {pos : Pos} {ps : List Pat} (hc : X.calm = true) (h : PGs X es (Pat.tgs X.K ps))
    (hn : (assignEach es X.env).length = ps.length := by rfl) (hst : (assignEach es X.env).findIdx? (·.1) = none := by rfl) : PG X (.Tuple es j pos) (Pat.tg X.K (.t ps)) := by
  unfold Pat.tg
  exact pg_tup hc h hn hst

/-! ### comprehensions -/
/-- no error leaves a comprehension -/
def Res.bind0 {α β : Type} (r : Res α) (f : α → Store → Res β) : Res β := match r with
  | .ok a st => f a st
  | _ => .stuck
def lcL (p : Pat) (tt : En → Store → Res Bool) (te : En → Store → Res D) (env : En) : List D → Store → Res (List D)
  | [], st => .ok [] st
  | d :: ds, st => match Pat.bind p d with
    | none => .stuck
    | some bs => (tt (bindE env bs) st).bind0 fun c st => if c = true then (te (bindE env bs) st).bind0 fun y st => (lcL p tt te env ds st).bind0 fun ys st => .ok (y :: ys) st else lcL p tt te env ds st
def vLc (fi : En → Store → Res (List D)) (p : Pat) (vs : List Nat) (tt : En → Store → Res Bool) (te : En → Store → Res D) : En → Store → Res Slot := fun env st => (fi env st).bind fun ds st => (lcL p tt te (wipeE env vs) ds st).bind0 mkLst
def ttYes : En → Store → Res Bool := fun _ st => .ok true st
theorem Post.bind0 {K : PySem.W.Frag} {mg : Str → Option Value} {α β γ : Type} {R : G → α → β → Prop} {g : G} {H : Hp} {σ : L2.St} {r : Res α} {N : α → Store → Prop} (h : match r with | .ok a st => N a st | _ => False) :
    Post K mg R W0 g H σ r (Mid K mg R g H fun _ _ a st1 => N a st1) := by
  cases r with
  | ok a st => exact fun v g2 H2 s2 r S => ⟨g2, a, st, s2, r, S, h⟩
  | er e st => exact h.elim
  | stuck => exact h.elim
theorem bind0_ok {α β : Type} {r : Res α} {f : α → Store → Res β} {y : β} {st' : Store} (h : r.bind0 f = .ok y st') : ∃ a st, r = .ok a st ∧ f a st = .ok y st' := by
  cases r with
  | ok a st => exact ⟨a, st, rfl, h⟩
  | er e st => cases h
  | stuck => cases h
section
variable {X : Cx} {W : Wi}
abbrev BlkE (X : Cx) (scope : Scope) (e : Expr) (f : En → Store → Res D) : Prop := ∀ (s : Shared) (H : Hp) (C : Addr) (cl : List (Str × Addr)) (fp : List Addr), EE (X.blk s H scope (compEnvC scope cl C X.env) fp) W0 e f
/-- the tests of a comprehension -/
abbrev TsE (X : Cx) (scope : Scope) (ifs : List Expr) (f : En → Store → Res Bool) : Prop := ∀ (s : Shared) (H : Hp) (C : Addr) (cl : List (Str × Addr)) (fp : List Addr), PTs (X.blk s H scope (compEnvC scope cl C X.env) fp) ifs (tT X.K X.mg W0 f)
theorem ts_nil {scope : Scope} : TsE X scope [] ttYes := fun s H C cl fp => by
  refine ⟨fun pins s σ H Q I h => ?_⟩
  obtain ⟨g, env, st, os, hv, ho, hS, h⟩ := h
  exact pts_nil.run pins s σ H Q I (h.here rfl hS)
theorem ts_one {scope : Scope} {c : Expr} {f : En → Store → Res Bool} (h : ∀ (s : Shared) (H : Hp) (C : Addr) (cl : List (Str × Addr)) (fp : List Addr), BE (X.blk s H scope (compEnvC scope cl C X.env) fp) W0 c f) : TsE X scope [c] f := fun s H C cl fp => pts_one (h s H C cl fp)
/-- a state of a comprehension's loop: the list at D holds acc -/
def LcAt (X : Cx) (g1 : G) (env : En) (σw : L2.St) (D0 : Addr) (Q : VK) (p : Pat) (tt : En → Store → Res Bool) (te : En → Store → Res D) (fin : List D → Store → Prop) (ds : List D) (H : Hp) : Prop :=
  ∃ g st os acc vs, Ext g1 g ∧ EnvOk X.K X.mg g H env σw os ∧ OsOk g H os ∧ SOk X.K X.mg g st H ∧ H D0 = some (.lst vs) ∧ RepL X.K X.mg g acc vs ∧ g.kp D0 = none ∧ D0 ∉ g.fp ∧ D0 ∉ os ∧
    ∃ ys st', lcL p tt te env ds st = .ok ys st' ∧ (acc ++ ys).length ≤ sizeLine ∧
      ∀ g' H' vs', Step g H [D0] g' H' [D0] → H' D0 = some (.lst vs') → RepL X.K X.mg g' (acc ++ ys) vs' → g'.kp D0 = none → D0 ∉ g'.fp → SOk X.K X.mg g' st' H' → Q (.ref D0) H'
theorem osOk_one {g : G} {H : Hp} {a : Addr} {o : HO} (h : H a = some o) (hk : g.kp a = none) (hf : a ∉ g.fp) : OsOk g H [a] := by
  have e : ∀ b ∈ [a], b = a := fun b hb => by simpa using hb
  exact ⟨by simp, fun b hb => by rw [e b hb, h]; simp, fun b hb => by rw [e b hb]; exact hk, fun b hb => by rw [e b hb]; exact hf⟩
theorem lc_reads {elt tg iter : Expr} {ifs : List Expr} {scope : Scope} {own : List (Str × Nat)} {p : Pat} {fi : En → Store → Res (List D)} {tt : En → Store → Res Bool} {te : En → Store → Res D} {σ : L2.St} {H : Hp} {Q : VK} (hp : ∀ i ∈ p.slots, i ∈ own.map (·.2))
    (h : tSl X.K X.mg W (vLc fi p (own.map (·.2)) tt te) σ H Q) : tLc (tI X.K X.mg W fi) (Pat.tg X.K p) (tT X.K X.mg W0 tt) (tE X.K X.mg W0 te) (own.map (·.2)) σ H Q := by
  obtain ⟨g, env, st, os, hv, ho, hS, h⟩ := h
  refine ⟨g, env, st, os, hv, ho, hS, ?_⟩
  have h' : PostS X.K X.mg W g H σ ((fi env st).bind fun ds st => (lcL p tt te (wipeE env (own.map (·.2))) ds st).bind0 mkLst) Q := h
  show PostI _ _ _ _ _ _ (fi env st) _
  generalize fi env st = r at h' ⊢
  cases r with
  | stuck => exact h'
  | er x st1 => exact h'
  | ok ds st1 =>
    intro J g1 H1 s1 S1 wk D0 hD0
    have h2 : PostS X.K X.mg W g1 H1 σ ((lcL p tt te (wipeE env (own.map (·.2))) ds st1).bind0 mkLst) Q := PostS.step (r := (lcL p tt te (wipeE env (own.map (·.2))) ds st1).bind0 mkLst) h' s1
    generalize hl : lcL p tt te (wipeE env (own.map (·.2))) ds st1 = r2 at h2
    cases r2 with
    | stuck => exact (h2 : False).elim
    | er x st2 => exact (h2 : False).elim
    | ok ys st2 =>
      have h3 : PostS X.K X.mg W g1 H1 σ (if ys.length ≤ sizeLine then .ok (.ol ys) st2 else .stuck) Q := h2
      split at h3
      · next hz =>
        have hv1 := hv.step' ho s1
        have ho1 := ho.step s1
        obtain ⟨osw, e1, e2, e3⟩ := hv1.wipe ho1 (own.map (·.2))
        have ho2 := ho1.sub e2 e3
        obtain ⟨S2, s2, o2⟩ := S1.newO (o := .lst []) hD0
        have hDos : D0 ∉ osw := fun z => ho2.th D0 z hD0
        refine ⟨fun i m H => m = ds.length - i ∧ i ≤ ds.length ∧ LcAt X g1 (wipeE env (own.map (·.2))) (L2.wipe σ (own.map (·.2))) D0 Q p tt te (fun _ _ => True) (ds.drop i) H, ⟨_, rfl, Nat.zero_le _, g1, st1, osw, [], [], Ext.refl _, e1.step (Ext.refl _) fun a ha => upd_ne (by rintro rfl; exact hDos ha), ⟨ho2.nd, fun a ha => by rw [upd_ne (by rintro rfl; exact hDos ha)]; exact ho2.th a ha, ho2.kp, ho2.fp⟩, S2, upd_same, .nil, S1.kpn hD0, S1.fpn hD0, hDos, ys, st2, by rw [List.drop_zero]; exact hl, by simpa using hz, fun g' H' vs' st' hd' rl kp fp S' => ?_⟩, ?_⟩
        · exact h3 (.ref D0) g' H' [D0] (s2.trans st') (osOk_one hd' kp fp) (.ol hd' (by simpa using rl)) S'
        · rintro i m H2 ⟨rfl, hle, g2, st3, os2, acc, vs, x2, hv2, ho2, S2, hD, rl, kp, fp, hDo, ys2, st4, hl2, hz2, fin⟩
          obtain ⟨w1, w2⟩ := wk g2 H2 st3 x2 S2
          by_cases hlt : i < ds.length
          · refine .inr ⟨(w2 i ds[i] (by simp [hlt])).1, LcAt X g1 (wipeE env (own.map (·.2))) (L2.wipe σ (own.map (·.2))) D0 Q p tt te (fun _ _ => True) (ds.drop (i + 1)), fun H' n => ⟨_, by omega, rfl, hlt, n⟩, fun x H3 y => ?_⟩
            obtain ⟨g3, s3, r3, S3⟩ := (w2 i ds[i] (by simp [hlt])).2 x H3 y
            rw [List.drop_eq_getElem_cons hlt] at hl2
            unfold lcL at hl2
            split at hl2
            · cases hl2
            · next bs hb =>
              obtain ⟨ws, b1, b2⟩ := Pat.reads S3 p ds[i] x bs hb r3
              refine b2 _ _ ?_
              have hsl : ∀ j ∈ ws.map (·.1), j ∈ own.map (·.2) := fun j hj => hp j (by rw [← Pat.bind_slots p _ bs hb, b1.slots]; exact hj)
              refine ⟨(wipe_bind hsl).trans wipe_idem, ?_⟩
              have hv3 := hv2.step' ho2 s3
              have ho3 := ho2.step s3
              obtain ⟨os3, q1, q2, q3⟩ := EnvOk.binds b1 hv3 ho3
              obtain ⟨c, st5, ht, hl3⟩ := bind0_ok hl2
              have x3 := x2.trans s3.ext
              have kD : ∀ {g' : G} {H' : Hp}, Step g3 H3 [] g' H' [] → H' D0 = some (.lst vs) ∧ g'.kp D0 = none ∧ D0 ∉ g'.fp := fun {g' H'} s' => by
                have z := s3.trans s'
                refine ⟨(z.fr D0 (by rw [hD]; simp) fp (by simp)).trans hD, ?_, fun hm => ?_⟩
                · cases e : g'.kp D0 with
                  | none => rfl
                  | some u =>
                    rcases z.nk D0 (by rw [e]; simp) with q | q | q | q
                    · exact absurd kp q
                    · rw [hD] at q; cases q
                    · exact nomatch q
                    · exact absurd q fp
                · rcases z.nf D0 hm with q | q | q
                  · exact fp q
                  · rw [hD] at q; cases q
                  · exact nomatch q
              refine ⟨g3, bindE (wipeE env (own.map (·.2))) bs, st3, os3, q1, q3, S3, (Post.bind0 (β := Bool) (γ := Bool) (N := fun c' st' => c' = c ∧ st' = st5) (by rw [ht]; exact ⟨rfl, rfl⟩)).imp fun c' H4 q => ?_⟩
              obtain ⟨g4, c2, st6, s4, rb, S4, rfl, rfl⟩ := q
              cases rb
              have hv4 := q1.step' q3 s4
              have ho4 := q3.step s4
              have hw4 := hv3.step' ho3 s4
              have how4 := ho3.step s4
              have x4 := x3.trans s4.ext
              cases c' with
              | false =>
                refine iteF ?_
                rw [if_neg (by decide)] at hl3
                obtain ⟨d1, d2, d3⟩ := kD s4
                exact ⟨g4, st6, os2, acc, vs, x4, hw4, how4, S4, d1, (rl.ext s3.ext).ext s4.ext, d2, d3, hDo, ys2, st4, hl3, hz2, fun g' H' vs' st' => fin g' H' vs' (((s3.trans s4).frame [D0]).trans st')⟩
              | true =>
                refine iteT ?_
                rw [if_pos rfl] at hl3
                obtain ⟨y1, st7, hte, hl4⟩ := bind0_ok hl3
                obtain ⟨yr, st8, hlr, hl5⟩ := bind0_ok hl4
                cases hl5
                refine ⟨g4, bindE (wipeE env (own.map (·.2))) bs, st6, os3, hv4, ho4, S4, (Post.bind0 (β := V) (γ := V) (N := fun y' st' => y' = y1 ∧ st' = st7) (by rw [hte]; exact ⟨rfl, rfl⟩)).imp fun yv H5 q => ?_⟩
                obtain ⟨g5, y2, st9, s5, ry, S5, rfl, rfl⟩ := q
                have s45 := s4.trans s5
                obtain ⟨d1, d2, d3⟩ := kD s45
                have rl5 := ((rl.ext s3.ext).ext s4.ext).ext s5.ext
                have hlen : vs.length = acc.length := rl.length.symm
                refine ⟨vs, d1, by simp only [List.length_append, List.length_cons] at hz2; omega, ?_⟩
                have hw5 := hw4.step' how4 s5
                have how5 := how4.step s5
                have hne : ∀ a ∈ os2, a ≠ D0 := fun a ha z => hDo (z ▸ ha)
                refine ⟨g5, st9, os2, acc ++ [y2], vs ++ [yv], x4.trans s5.ext, hw5.step (Ext.refl _) fun a ha => upd_ne (hne a ha), ⟨how5.nd, fun a ha => by rw [upd_ne (hne a ha)]; exact how5.th a ha, how5.kp, how5.fp⟩, S5.wrO d2 d3, upd_same, rl5.append (.cons ry .nil), d2, d3, hDo, yr, st4, hlr, by simpa using hz2, fun g' H' vs' st' hd' rl' kp' fp' S' => ?_⟩
                refine fin g' H' vs' ((((s3.trans s4).trans s5).frame [D0]).trans ((Step.wrO (by simp) (by rw [d1]; simp) (fun _ h => h)).trans st')) hd' (by simpa using rl') kp' fp' S'
          · have e : i = ds.length := by omega
            subst e
            refine .inl ⟨w1 _ (Nat.le_refl _), ?_⟩
            rw [List.drop_length] at hl2
            cases hl2
            exact fin g2 H2 vs Step.refl hD (by simpa using rl) kp fp S2
      · exact (h3 : False).elim
theorem s_lc {elt tg iter : Expr} {ifs : List Expr} {scope : Scope} {own : List (Str × Nat)} {pos : Pos} {p : Pat} {fi : En → Store → Res (List D)} {tt : En → Store → Res Bool} {te : En → Store → Res D} (hc : X.calm = true) (hN : X.N.Nodup) (hi : IE X W tg iter fi) (ok : BlkOk X.N X.env.scope scope own)
    (hp : ∀ i ∈ p.slots, i ∈ own.map (·.2))
    (hg : ∀ (s : Shared) (H : Hp) (C : Addr) (cl : List (Str × Addr)) (fp : List Addr), PG (X.blk s H scope (compEnvC scope cl C X.env) fp) tg (Pat.tg X.K p)) (ht : TsE X scope ifs tt)
    (he : BlkE X scope elt te) (hs : ∀ x, foldedSetIterable iter X.env x = pure x := by intro _; rfl) :
    SE X W (.ListComp elt [⟨tg, iter, ifs, 0⟩] scope pos) (vLc fi p (own.map (·.2)) tt te) :=
  ⟨fun pins s σ H Q I h => (pe_lc hc hN hi ok hg ht he hs).run pins s σ H Q I (lc_reads (elt := elt) (tg := tg) (iter := iter) (ifs := ifs) (scope := scope) hp h)⟩
end
end EV

set_option Elab.async false
set_option linter.all false
set_option autoImplicit false
set_option maxRecDepth 100000
set_option maxHeartbeats 400000
/-! a def by its name; the law's call; the end -/
namespace EV
open PySem PySem.Spec PyProof.Rows L2

/-- the module's def x does as F, at level k -/
def DefOk (P : Program) (w : World) (K : PySem.W.Frag) (mg : Str → Option Value) (base : Heap) (x : Str) (k : Nat) (ps : List Str) (F : List D → Store → Res D) : Prop :=
  ∃ f fd, mg x = some (.ref f) ∧ PySem.W.keepIn K (.ref f) = true ∧ Binds K fd ps [] ∧ FnG P w K mg base k f fd ps (spE K mg ps.length F)
theorem DefOk.mono {P : Program} {w : World} {K : PySem.W.Frag} {mg : Str → Option Value} {base : Heap} {x : Str} {j k : Nat} {ps : List Str} {F : List D → Store → Res D} (h : DefOk P w K mg base x j ps F) (hk : j ≤ k) : DefOk P w K mg base x k ps F := by
  obtain ⟨f, fd, a, b, c, d⟩ := h
  exact ⟨f, fd, a, b, c, d.mono hk⟩
/-- what the top has written of a def -/
structure TopDef (K : PySem.W.Frag) (mg : Str → Option Value) (x : Str) (st : Stmt) (ps : List Str) : Prop where
  ex : ∃ f fd, mg x = some (.ref f) ∧ Fun K x x st f fd ∧ Binds K fd ps []
section
variable {P : Program} {w : World} {K : PySem.W.Frag} {mg : Str → Option Value} {base : Heap}
theorem def_ok {x : Str} {st : Stmt} {N ps : List Str} {k m : Nat} {body : En → Store → ResS} (T : TopDef K mg x st ps) (S : FnScope N ps (defScope st)) (hN : N.length = ps.length + m)
    (hbody : ∀ (f : Addr) (cdv : Value) (A : Around) (outer : List Env) (s : Shared) (H : Hp) (E : XK), Rm k (A.deeper (envOfC x (defScope st) s.heap.objs.size f cdv)) →
      Takes (cxOf (CX P w) P w K mg base N x (defScope st) f cdv A outer s H E) (wOf K mg (wE K mg E)) →
      STs (cxOf (CX P w) P w K mg base N x (defScope st) f cdv A outer s H E) (wE K mg E) (defBody st) body) : DefOk P w K mg base x (k + 1) ps (fnF ps.length m body) := by
  obtain ⟨f, fd, hm, F, b⟩ := T.ex
  exact ⟨f, fd, hm, F.kp, b, fn_ok F S hN (hbody f)⟩
/-- a def that does nothing promised -/
theorem def_stuck {x : Str} {st : Stmt} {ps : List Str} {k : Nat} (T : TopDef K mg x st ps) : DefOk P w K mg base x k ps (fun _ _ => .stuck) := by
  obtain ⟨f, fd, hm, F, b⟩ := T.ex
  exact ⟨f, fd, hm, F.kp, b, fun vs H Q E h => spE_len h, fun A outer s H args us vs Q E hr e0 hb r h => by
    obtain ⟨_, _, _, _, _, _, z⟩ := h
    exact z.elim⟩
theorem topDef_mk {x : Str} {st : Stmt} {ps : List Str} {f : Addr} {oc : Value} {od an : Option Addr} {osl : Array (Option Value)} {kV doc pm cdv ct : Value} {h : Heap} (X : K.In h) (G : h.Ns mainGlobals mg)
    (a : PySem.W.nsIn K mainGlobals x = some (some (.ref f)))
    (l : K.lookup f = some ⟨oc, od, .func (PySem.W.fnOf x x (defArgs st) (defBody st) (defScope st) .none kV doc pm an cdv ct), osl⟩)
    (c : PySem.W.codeIn K cdv x = true) (k : PySem.W.keepIn K (.ref f) = true)
    (hb : ∀ (kV doc pm : Value) (an : Option Addr) (cdv ct : Value) (us : List Value), us.length = ps.length → bindArgs (PySem.W.fnOf x x (defArgs st) (defBody st) (defScope st) .none kV doc pm an cdv ct) ⟨us, []⟩ = pure (ps.zip us)) : TopDef K mg x st ps :=
  ⟨f, _, PySem.W.mg_of X G a, fun_mk l c k, (fun_mk (st := st) l c k).binds hb⟩
end
section
variable {X : Cx} {W : Wi} {k j : Nat} {ps : List Str} {F : List D → Store → Res D} {x : Str} {p pos : Pos} {e : Expr} {es : List Expr} {fa : En → Store → Res (List D)}
/-- f(e, ..) of the module's def f -/
theorem e_def (h : DefOk X.prog X.w X.K X.mg X.base x j ps F) (hr : Rm k X.A) (hj : j ≤ k) (tk : Takes X (wOf X.K X.mg W)) (hg : Gl X x) (ha : AE X W (e :: es) fa) (hdb : (x == ("__debug__" : Str)) = false := by decide) (he : starEach (e :: es) X.env = (false, eval e X.env) :: starEach es X.env := by rfl) (hpl : (backTo pos (starEach es X.env)).any (·.1) = false := by rfl) :
    EE X W (.Call (.Name x p) (e :: es) [] pos) (vA (fnN ps.length F) fa) := by
  obtain ⟨f, fd, hm, hk, hb, FG⟩ := h
  exact e_call FG (hr.mono hj) tk hg hm hk hb ha hdb he hpl
theorem e_def0 (h : DefOk X.prog X.w X.K X.mg X.base x j ps F) (hr : Rm k X.A) (hj : j ≤ k) (tk : Takes X (wOf X.K X.mg W)) (hg : Gl X x) (hdb : (x == ("__debug__" : Str)) = false := by decide) :
    EE X W (.Call (.Name x p) [] [] pos) (vA (fnN ps.length F) vNil) := by
  obtain ⟨f, fd, hm, hk, hb, FG⟩ := h
  exact e_call0 FG (hr.mono hj) tk hg hm hk hb hdb
end

/-- the law's call -/
theorem law_callG {P : Program} {w : World} {K : PySem.W.Frag} {mg mb : Str → Option Value} {k : Nat} {fa a : Addr} {nm x : Str} {F0 : List D → Store → Res D} {s₁ : Shared} {vs : List Value} {ns : List Int}
    (KX : K.In s₁.heap) (hns : s₁.heap.Ns mainGlobals mg) (hb : s₁.heap.Ns builtinsNs mb) (hbb : ∀ x : Str, x ≠ "__name__" → mb x = bootBuiltins x) (hlim : s₁.heap.NoLimit) (hg : s₁.gens = #[])
    (ha : s₁.heap.get? a = some { cls := .type "list", data := .seq vs.toArray }) (hi : IntsAre vs ns) (hl : ns.length ≤ sizeLine) (hr : Rm k callerA) (hmg : mg nm = some (.ref fa))
    (F : ∀ base : Heap, K.In base → base.Ns mainGlobals mg → DefOk P w K mg base nm k [x] F0)
    (hF : ∃ st, F0 [.scr ns] [] = .ok (.bl true) st) :
    codeAny (model P w) callerA (.call (.ref fa) ⟨[.ref a], []⟩) (fun r s' => r = .ok (.ret (.bool true)) ∧ OldK s₁.heap s'.heap ∧ s'.os = s₁.os ∧ AllBare s'.gens) s₁ := by
  have rv := vals_ints hi
  have lenV := hi.length
  -- from an abstract heap in which nothing but the script may be tracked
  have core : ∀ H : Hp, Only H → SqL K H a (ns.map V.int) → HOk P w H s₁.heap → (∀ b, H b ≠ none → b = a) → (H a ≠ none → K.lookup a = none) →
      codeAny (model P w) callerA (.call (.ref fa) ⟨[.ref a], []⟩) (fun r s' => r = .ok (.ret (.bool true)) ∧ OldK s₁.heap s'.heap ∧ s'.os = s₁.os ∧ AllBare s'.gens) s₁ := by
    intro H hO hS hok hA hK
    have base_of : ∀ {b : Addr} {o : Obj}, s₁.heap.get? b = some o → H b = none → (hidT s₁.heap H).get? b = some o := fun e n => hidT_get e n
    have noA : ∀ {b : Addr} {o : Obj} {es : Array DictEntry} {ep : Nat}, s₁.heap.get? b = some o → o.data = .dict es ep → H b = none := fun {b o es ep} e d => by
      cases q : H b with
      | none => rfl
      | some u =>
        have e' : b = a := hA b (by rw [q]; simp)
        subst e'
        rw [ha] at e; cases e
        have d' : Data.seq vs.toArray _ = Data.dict es ep := d
        cases d'
    have nsK : ∀ {b : Addr} {m : Str → Option Value}, s₁.heap.Ns b m → (hidT s₁.heap H).Ns b m := fun {b m} ⟨o, es, ep, e, d, r⟩ => ⟨o, es, ep, base_of e (noA e d), d, r⟩
    have hKb : K.In (hidT s₁.heap H) := fun b o e => base_of (KX b o e) (by
      cases q : H b with
      | none => rfl
      | some u =>
        have e' : b = a := hA b (by rw [q]; simp)
        subst e'
        rw [hK (by rw [q]; simp)] at e; cases e)
    have hM : Mod K mg (hidT s₁.heap H) := ⟨hKb, nsK hns, ⟨mb, nsK hb, hbb⟩, let ⟨mc, h1, h2⟩ := hlim; ⟨mc, nsK h1, h2⟩⟩
    have e0 : Env0 P w K mg (hidT s₁.heap H) callerA [] s₁ H := ⟨rfl, hM, fun b o e => of_hidT e, Nat.le_of_eq (hidT_size _ _), trivial, fun b hb => absurd (show b ∈ ([] : List Addr) from hb) (by simp), hok, .of_eq hg⟩
    obtain ⟨stF, hF⟩ := hF
    have hsp : spE K mg 1 F0 [.ref a] H (fun v _ => v = .bl true) fun _ _ _ => False := by
      refine ⟨⟨H, []⟩, [.scr ns], [], rfl, .cons (.scr hS) .nil, ⟨fun _ _ h => h, by simp [G.fp, fpOf], fun b hb => ?_, fun b hb => ?_, .nil⟩, ?_⟩
      · simp [G.fp, fpOf] at hb
      · simp [G.fp, fpOf] at hb
      · rw [hF]
        intro v g' H' _ r _
        cases r
        rfl
    obtain ⟨f', fd, hm', _, hbd, FG⟩ := F _ hKb (nsK hns)
    rw [hmg] at hm'
    cases hm'
    refine codeAny_mono (FG.run callerA [] s₁ H ⟨[.ref a], []⟩ [.ref a] [.ref a] _ _ hr e0 (hbd s₁ [.ref a] KX rfl) (.cons rfl .nil) hsp) fun r s' h => ?_
    cases r with
    | error e =>
      obtain ⟨_, _, _, _, _, _, _, _, _, _, _, _, z⟩ := h
      exact z.elim
    | ok fl =>
      cases fl with
      | next => exact False.elim h
      | brk => exact False.elim h
      | cont => exact False.elim h
      | ret u =>
        obtain ⟨v, H', os, bare, un, hok', r', q⟩ := h
        have q' : v = .bl true := q
        subst q'
        obtain rfl : u = Value.bool true := r'
        refine ⟨rfl, OldK.of_keep fun b o e => ?_, os, bare⟩
        cases q : H b with
        | none => exact un.keep b o e q (by intro z; exact absurd (show b ∈ ([] : List Addr) from z) (by simp)) (by simp)
        | some u =>
          rcases hO b with z | ⟨ob, xs, z⟩
          · rw [q] at z; cases z
          · have z2 := un.frzs b ob _ z
            obtain ⟨e1, _⟩ := hok b _ z
            obtain ⟨e2, _⟩ := hok' b _ z2
            rw [e] at e1; cases e1
            exact e2
  cases hk : K.lookup a with
  | some o =>
    -- the script is one of the module's own objects
    have e := KX a o hk
    rw [ha] at e
    cases e
    refine core (fun _ => none) (fun _ => .inl rfl) (.inr ⟨_, vs.toArray, _, hk, rfl, rfl, rfl, by rw [List.size_toArray, lenV]; exact hl, by simpa using rv⟩) (fun b u z => by have z' : (none : Option HO) = some u := z; cases z') (fun b z => absurd rfl z) fun z => absurd rfl z
  | none =>
    refine core (fun b => if b = a then some (.frz { cls := .type "list", data := .seq vs.toArray } (.lst (ns.map V.int))) else none) (fun b => ?_) (.inl (.inr ⟨{ cls := .type "list", data := .seq vs.toArray }, if_pos rfl⟩)) (fun b u z => ?_) (fun b z => ?_) fun _ => hk
    · by_cases hb : b = a
      · exact .inr ⟨_, _, if_pos hb⟩
      · exact .inl (if_neg hb)
    · by_cases hb : b = a
      · have z' := (if_pos hb).symm.trans z
        cases z'
        subst hb
        exact ⟨ha, by rw [List.length_map]; exact hl, vs, _, rv, ha⟩
      · have z' := (if_neg hb).symm.trans z
        cases z'
    · by_cases hb : b = a
      · exact hb
      · exact absurd (if_neg hb) z

/-- the goal that k_head leaves -/
theorem walkG {l : PySem.W.OpenLaw} {n k : Nat} {q : Program} {loose : List Str} {XP : (Str → Option Value) → Heap → Prop} {YP : World → Heap → Prop} {d : DefRec} {K : Params → PySem.W.Frag} {x : Str} {F0 : List D → Store → Res D}
    (hn : l.most = some n) (hn2 : n ≤ sizeLine) (hdf : d.params.defaults = []) (hr : Rm k callerA)
    (hY : ∀ (w : World) (h : Heap), YP w h → (K w.params).In h)
    (F : ∀ (w : World) (mg : Str → Option Value) (h : Heap), (K w.params).In h → h.Ns mainGlobals mg →
      ∀ base : Heap, (K w.params).In base → base.Ns mainGlobals mg → DefOk l.prog w (K w.params) mg base d.name k [x] F0)
    (hF : ∀ ns : List Int, ns.length ≤ n → ∃ st, F0 [.scr ns] [] = .ok (.bl true) st) :
    PySem.W.WalkO q loose XP YP l.row.toRowW d [] (fun f vs => PySem.call f vs) := by
  refine Att.attach_call hn hdf fun w s₀ s₁ mg mb fa o pm cd doc a vs ns G Y ho hd hcd hmg hobj hints hlen hg => ?_
  have KX := hY w _ Y
  exact law_callG KX G.T.g G.T.b G.T.builtins G.T.nolimit hg hobj hints (Nat.le_trans hlen hn2) hr hmg (F w mg _ KX G.T.g) (hF ns hlen)
end EV

set_option Elab.async false
set_option linter.all false
set_option autoImplicit false
set_option maxRecDepth 100000
set_option maxHeartbeats 400000
/-! chains; stores of comprehensions; augmented stores -/
namespace EV
open PySem PySem.Spec PyProof.Rows L2

section
variable {X : Cx} {W : Wi} {a b c e : Expr} {fa fb fc fe : En → Store → Res D} {fs : En → Store → Res Slot} {pos : Pos}
/-- a op b op' c -/
def vChain (F F' : D → D → Store → Res D) (fa fb fc : En → Store → Res D) : En → Store → Res D := fun env st => (fa env st).bind fun x st => (fb env st).bind fun y st => (F x y st).bind fun r st => match r with
  | .bl true => (fc env st).bind fun z st => F' y z st
  | .bl false => .ok (.bl false) st
  | _ => .stuck
theorem e_chain {op op' : CmpOp} {F F' : D → D → Store → Res D} (ho : Op2 X (compareOp op) F) (ho' : Op2 X (compareOp op') F') (ha : EE X W a fa) (hb : EE X W b fb) (hc : EE X W c fc)
    (hm : lastMarks [op, op'] [b, c] = false := by with_unfolding_all rfl) : EE X W (.Compare a [op, op'] [b, c] pos) (vChain F F' fa fb fc) := by
  refine ⟨fun pins s σ H Q I h => ?_⟩
  obtain ⟨g, env, st, os, hv, hos, hS, h⟩ := h
  refine Compare_chain (thn (ha.run pins s σ H _ I ⟨g, env, st, os, hv, hos, hS, Post.bind h⟩) fun v s1 ⟨x, H1, I1, r1, q1⟩ => ?_) hm
  obtain ⟨g1, dx, st1, s1', rx, S1, h1⟩ := q1
  have hv1 := hv.step' hos s1'
  have ho1 := hos.step s1'
  refine chain_link (thn (hb.run pins s1 σ H1 _ I1 ⟨g1, env, st1, os, hv1, ho1, S1, Post.bind h1⟩) fun u s2 ⟨y, H2, I2, r2, q2⟩ => ?_)
  obtain ⟨g2, dy, st2, s2', ry, S2, h2⟩ := q2
  have hv2 := hv1.step' ho1 s2'
  have ho2 := ho1.step s2'
  refine thn (ho W pins s2 σ H2 g2 st2 dx dy x y v u _ I2 S2 (rx.ext s2'.ext) ry r1 r2 (Post.bind h2)) fun d s3 ⟨z, H3, I3, r3, q3⟩ => ?_
  obtain ⟨g3, dz, st3, s3', rz, S3, h3⟩ := q3
  cases rz with
  | bl k =>
    cases r3
    refine wpAny_truthy_bool ?_
    cases k with
    | false => exact ite_ff ⟨.bl false, H3, I3, rfl, h3.here (.bl _) S3⟩
    | true =>
      refine ite_tt (chain_last (thn (hc.run pins s3 σ H3 _ I3 ⟨g3, env, st3, os, hv2.step' ho2 s3', ho2.step s3', S3, Post.bind h3⟩) fun w' s4 ⟨z', H4, I4, r4, q4⟩ => ?_))
      obtain ⟨g4, dw, st4, s4', rw, S4, h4⟩ := q4
      exact ho' W pins s4 σ H4 g4 st4 dy dw y z' u w' Q I4 S4 ((ry.ext s3'.ext).ext s4'.ext) rw r2 r4 h4
  | _ => exact (h3 : False).elim
theorem t_chain {op op' : CmpOp} {F F' : D → D → Store → Res D} (ho : Op2 X (compareOp op) F) (ho' : Op2 X (compareOp op') F') (ha : EE X W a fa) (hb : EE X W b fb) (hc : EE X W c fc)
    (hm : lastMarks [op, op'] [b, c] = false := by with_unfolding_all rfl) : BE X W (.Compare a [op, op'] [b, c] pos) (vB (vChain F F' fa fb fc)) := by
  refine ⟨fun pins s σ H Q I h => ?_⟩
  obtain ⟨g, env, st, os, hv, hos, hS, h⟩ := h
  have h := Post.toB h
  refine isTrue_chain (thn (ha.run pins s σ H _ I ⟨g, env, st, os, hv, hos, hS, Post.bind h⟩) fun v s1 ⟨x, H1, I1, r1, q1⟩ => ?_) hm
  obtain ⟨g1, dx, st1, s1', rx, S1, h1⟩ := q1
  have hv1 := hv.step' hos s1'
  have ho1 := hos.step s1'
  refine test_link (thn (hb.run pins s1 σ H1 _ I1 ⟨g1, env, st1, os, hv1, ho1, S1, Post.bind h1⟩) fun u s2 ⟨y, H2, I2, r2, q2⟩ => ?_)
  obtain ⟨g2, dy, st2, s2', ry, S2, h2⟩ := q2
  have hv2 := hv1.step' ho1 s2'
  have ho2 := ho1.step s2'
  refine thn (ho W pins s2 σ H2 g2 st2 dx dy x y v u _ I2 S2 (rx.ext s2'.ext) ry r1 r2 (Post.bind h2)) fun d s3 ⟨z, H3, I3, r3, q3⟩ => ?_
  obtain ⟨g3, dz, st3, s3', rz, S3, h3⟩ := q3
  cases rz with
  | bl k =>
    cases r3
    refine wpAny_truthy_bool ?_
    cases k with
    | false =>
      obtain ⟨k', e', q'⟩ := h3.here (.bl _) S3
      cases e'
      exact ite_ff ⟨H3, I3, q'⟩
    | true =>
      refine ite_tt (test_last (thn (hc.run pins s3 σ H3 _ I3 ⟨g3, env, st3, os, hv2.step' ho2 s3', ho2.step s3', S3, Post.bind h3⟩) fun w' s4 ⟨z', H4, I4, r4, q4⟩ => ?_))
      obtain ⟨g4, dw, st4, s4', rw, S4, h4⟩ := q4
      refine thn (ho' W pins s4 σ H4 g4 st4 dy dw y z' u w' _ I4 S4 ((ry.ext s3'.ext).ext s4'.ext) rw r2 r4 h4) fun d' s5 ⟨z2, H5, I5, r5, k2, e2, q5⟩ => ?_
      subst e2
      cases r5
      exact wpAny_truthy_bool ⟨H5, I5, q5⟩
  | _ => exact (h3 : False).elim

/-! ### stores -/
theorem setS_reads {i : Nat} {D : Ends} {σ : L2.St} {H : Hp} (h : tS X.K X.mg W (sSetS i fs) D σ H) : tSl X.K X.mg W fs σ H (fun v H1 => D.nx (σ.set i (some v)) H1) := by
  obtain ⟨g, env, st, os, hv, ho, hS, h⟩ := h
  refine ⟨g, env, st, os, hv, ho, hS, ?_⟩
  have q := PostSt.goS hv ho h
  revert q
  show PostS _ _ _ _ _ _ (fs env st) _ → PostS _ _ _ _ _ _ (fs env st) _
  intro q
  cases r : fs env st with
  | ok a st1 =>
    rw [r] at q
    intro v g' H' l s1 o1 so S1
    obtain ⟨g1, a1, st2, l1, s2, so2, S2, e2, o2, h2⟩ := q v g' H' l s1 o1 so S1
    exact PostSt.set e2 o2 so2 S2 h2
  | er x st1 => rw [r] at q; exact q
  | stuck => rw [r] at q; exact q
theorem set_reads {i : Nat} {D : Ends} {σ : L2.St} {H : Hp} (h : tS X.K X.mg W (sSet i fe) D σ H) : tE X.K X.mg W fe σ H (fun v H1 => D.nx (σ.set i (some v)) H1) := by
  obtain ⟨g, env, st, os, hv, ho, hS, h⟩ := h
  refine ⟨g, env, st, os, hv, ho, hS, (PostSt.go hv ho h).imp fun v H1 q => ?_⟩
  obtain ⟨g1, a, st1, s1, r, S1, e1, o1, h1⟩ := q
  exact PostSt.set (l := []) e1 o1 (.vl r) S1 h1
theorem frz_reads {σ : L2.St} {H : Hp} {Q : VK} (h : tE X.K X.mg W (vFrz fs) σ H Q) : tSl X.K X.mg W fs σ H Q := by
  obtain ⟨g, env, st, os, hv, ho, hS, h⟩ := h
  exact ⟨g, env, st, os, hv, ho, hS, PostS.frz h⟩
/-- name = [.. for ..], the name a local -/
theorem st_setLc (i : Nat) {y : Str} {py : Pos} {elt tg iter : Expr} {ifs : List Expr} {scope : Scope} {own : List (Str × Nat)} {spos : Pos} {p : Pat} {fi : En → Store → Res (List D)} {tt : En → Store → Res Bool} {te : En → Store → Res D} (hc : X.calm = true) (hN : X.N.Nodup) (hy : X.N[i]? = some y) (hyl : X.env.scope.names.lookup y = some .local)
    (hsw : swapsWith (.ListComp elt [⟨tg, iter, ifs, 0⟩] scope pos) (some (.Name y py)) spos.line X.env = pure true) (hi : IE X W tg iter fi) (ok : BlkOk X.N X.env.scope scope own)
    (hp : ∀ i ∈ p.slots, i ∈ own.map (·.2))
    (hg : ∀ (s : Shared) (H : Hp) (C : Addr) (cl : List (Str × Addr)) (fp : List Addr), PG (X.blk s H scope (compEnvC scope cl C X.env) fp) tg (Pat.tg X.K p)) (ht : TsE X scope ifs tt)
    (he : BlkE X scope elt te) (hs : ∀ x, foldedSetIterable iter X.env x = pure x := by intro _; rfl) :
    ST X W (.Assign [.Name y py] (.ListComp elt [⟨tg, iter, ifs, 0⟩] scope pos) spos) (sSetS i (vLc fi p (own.map (·.2)) tt te)) :=
  ⟨fun pins s σ H D I h => (ps_setLc hc hN hy hyl hsw hi ok hg ht he hs).run pins s σ H D I (lc_reads (elt := elt) (tg := tg) (iter := iter) (ifs := ifs) (scope := scope) hp (setS_reads h))⟩
/-- .. and what is made is frozen -/
theorem st_setLcF (i : Nat) {y : Str} {py : Pos} {elt tg iter : Expr} {ifs : List Expr} {scope : Scope} {own : List (Str × Nat)} {spos : Pos} {p : Pat} {fi : En → Store → Res (List D)} {tt : En → Store → Res Bool} {te : En → Store → Res D} (hc : X.calm = true) (hN : X.N.Nodup) (hy : X.N[i]? = some y) (hyl : X.env.scope.names.lookup y = some .local)
    (hsw : swapsWith (.ListComp elt [⟨tg, iter, ifs, 0⟩] scope pos) (some (.Name y py)) spos.line X.env = pure true) (hi : IE X W tg iter fi) (ok : BlkOk X.N X.env.scope scope own)
    (hp : ∀ i ∈ p.slots, i ∈ own.map (·.2))
    (hg : ∀ (s : Shared) (H : Hp) (C : Addr) (cl : List (Str × Addr)) (fp : List Addr), PG (X.blk s H scope (compEnvC scope cl C X.env) fp) tg (Pat.tg X.K p)) (ht : TsE X scope ifs tt)
    (he : BlkE X scope elt te) (hs : ∀ x, foldedSetIterable iter X.env x = pure x := by intro _; rfl) :
    ST X W (.Assign [.Name y py] (.ListComp elt [⟨tg, iter, ifs, 0⟩] scope pos) spos) (sSet i (vFrz (vLc fi p (own.map (·.2)) tt te))) :=
  ⟨fun pins s σ H D I h => (ps_setLc hc hN hy hyl hsw hi ok hg ht he hs).run pins s σ H D I (lc_reads (elt := elt) (tg := tg) (iter := iter) (ifs := ifs) (scope := scope) hp (frz_reads (set_reads h)))⟩
end
end EV

set_option Elab.async false
set_option linter.all false
set_option autoImplicit false
set_option maxRecDepth 100000
set_option maxHeartbeats 400000
/-! running what a text does on data: what must hold behind -/
namespace EV
open PySem PySem.Spec PyProof.Rows L2

/-- what is wanted of an error -/
abbrev ErP := Er → Store → Prop
abbrev ErS := Er → En → Store → Prop
abbrev noE : ErP := fun _ _ => False
abbrev atE (Ee : ErS) (env : En) : ErP := fun e st => Ee e env st
abbrev ofE (E : ErP) : ErS := fun e _ st => E e st
section
variable {α β : Type} {E E' : ErP}
def Res.holds (r : Res α) (E : ErP) (P : α → Store → Prop) : Prop := match r with
  | .ok a st => P a st
  | .er e st => E e st
  | .stuck => False
theorem Res.holds_bind {r : Res α} {k : α → Store → Res β} {P : β → Store → Prop} : (r.bind k).holds E P = r.holds E fun a st => (k a st).holds E P := by
  cases r <;> rfl
theorem Res.holds_bind0 {r : Res α} {k : α → Store → Res β} {P : β → Store → Prop} : (r.bind0 k).holds noE P = r.holds noE fun a st => (k a st).holds noE P := by
  cases r <;> rfl
theorem Res.holds.imp {r : Res α} {P Q : α → Store → Prop} (h : r.holds E P) (k : ∀ a st, P a st → Q a st) : r.holds E Q := by
  cases r with
  | ok a st => exact k a st h
  | er e st => exact h
  | stuck => exact h
theorem Res.holds.impE {r : Res α} {P Q : α → Store → Prop} (h : r.holds E P) (k : ∀ a st, P a st → Q a st) (ke : ∀ e st, E e st → E' e st) : r.holds E' Q := by
  cases r with
  | ok a st => exact k a st h
  | er e st => exact ke e st h
  | stuck => exact h
theorem Res.holds.any {r : Res α} {P : α → Store → Prop} (h : r.holds noE P) : r.holds E P := h.impE (fun _ _ q => q) fun _ _ q => q.elim
theorem Res.holds_ex {r : Res α} {P : α → Store → Prop} (h : r.holds noE P) : ∃ a st, r = .ok a st ∧ P a st := by
  cases r with
  | ok a st => exact ⟨a, st, rfl, h⟩
  | er e st => exact h.elim
  | stuck => exact h.elim
theorem Res.holds_of {r : Res α} {a : α} {st : Store} {P : α → Store → Prop} (e : r = .ok a st) (h : P a st) : r.holds E P := by rw [e]; exact h
theorem Res.eq_of {r : Res α} {a : α} {st : Store} (h : r.holds noE fun b st' => b = a ∧ st' = st) : r = .ok a st := by
  obtain ⟨b, st', e, rfl, rfl⟩ := Res.holds_ex h
  exact e
end
abbrev NX := En → Store → Prop
abbrev RT := D → Store → Prop
def ResS.runs (r : ResS) (Ee : ErS) (nx : NX) (rt : RT) (br ct : NX) : Prop := match r with
  | .nx env st => nx env st
  | .rt d st => rt d st
  | .br env st => br env st
  | .ct env st => ct env st
  | .er e env st => Ee e env st
  | .stuck => False
def no : NX := fun _ _ => False
def noR : RT := fun _ _ => False
variable {E : ErP} {Ee : ErS}
section
variable {nx br ct : NX} {rt : RT} {env : En} {st : Store} {f g : En → Store → ResS} {fe fa fb fc fi fo : En → Store → Res D} {fs : En → Store → Res Slot} {fl : En → Store → Res (List D)} {t u : En → Store → Res Bool} {i j : Nat} {P : D → Store → Prop} {PL : List D → Store → Prop} {PS : Slot → Store → Prop} {PB : Bool → Store → Prop}
/-- ahead of a statement: the slots are written out -/
def Nm (env : En) (P : En → Prop) : Prop := P env
theorem go_nm {env env' : En} {P : En → Prop} (h : env = env') (q : P env') : Nm env P := by
  unfold Nm
  rw [h]
  exact q
theorem go_fn {n m : Nat} {body : En → Store → ResS} {ds : List D} (h : ds.length = n) (q : Nm (ds.map Slot.vl ++ List.replicate m Slot.un) fun env => (body env st).runs (ofE E) (fun _ st => P .non st) P no no) : (fnF n m body ds st).holds E P := by
  unfold Nm at q
  unfold fnF
  rw [if_pos h]
  revert q
  generalize body (ds.map Slot.vl ++ List.replicate m Slot.un) st = r
  intro q
  cases r <;> exact q
theorem go_fnN {n : Nat} {F : List D → Store → Res D} {ds : List D} (h : ds.length = n) (q : (F ds st).holds E P) : (fnN n F ds st).holds E P := by
  unfold fnN
  rw [if_pos h]
  exact q
theorem go_seq (q : (f env st).runs Ee (fun env st => Nm env fun env => (g env st).runs Ee nx rt br ct) rt br ct) : (sSeq f g env st).runs Ee nx rt br ct := by
  unfold sSeq
  revert q
  generalize f env st = r
  intro q
  cases r <;> exact q
theorem go_nil (q : nx env st) : (sNil env st).runs Ee nx rt br ct := q
theorem go_go {α : Type} {r : Res α} {c : α → Store → ResS} (q : r.holds (atE Ee env) fun a st => (c a st).runs Ee nx rt br ct) : (r.go env c).runs Ee nx rt br ct := by
  cases r <;> exact q
theorem go_ret (q : (fe env st).holds (atE Ee env) rt) : (sRet fe env st).runs Ee nx rt br ct := go_go q
theorem go_retN (q : rt .non st) : (sRetN env st).runs Ee nx rt br ct := q
theorem go_expr (q : (fe env st).holds (atE Ee env) fun _ st => nx env st) : (sExpr fe env st).runs Ee nx rt br ct := go_go q
theorem go_brk (q : br env st) : (sBrk env st).runs Ee nx rt br ct := q
theorem go_cont (q : ct env st) : (sCont env st).runs Ee nx rt br ct := q
theorem go_if (q : (t env st).holds (atE Ee env) fun c st => (c = true → (f env st).runs Ee nx rt br ct) ∧ (c = false → (g env st).runs Ee nx rt br ct)) : (sIf t f g env st).runs Ee nx rt br ct :=
  go_go (q.imp fun c st h => by
    cases c with
    | true => exact h.1 rfl
    | false => exact h.2 rfl)
theorem go_set (q : (fe env st).holds (atE Ee env) fun d st => nx (env.set i (.vl d)) st) : (sSet i fe env st).runs Ee nx rt br ct := go_go q
theorem go_setS (q : (fs env st).holds (atE Ee env) fun d st => nx (env.set i d) st) : (sSetS i fs env st).runs Ee nx rt br ct := go_go q
theorem go_asg {tg : D → En → Store → ResS} (q : (fe env st).holds (atE Ee env) fun d st => (tg d env st).runs Ee nx noR no no) : (sAsg fe tg env st).runs Ee nx rt br ct := by
  refine go_go (q.imp fun d st h => ?_)
  revert h
  generalize tg d env st = r
  intro h
  cases r with
  | nx env1 st1 => exact h
  | er e env1 st1 => exact h
  | _ => exact (h : False).elim
theorem go_pat {p : Pat} {d : D} {bs : List (Nat × D)} (h : Pat.bind p d = some bs) (q : nx (bindE env bs) st) : (gPat p d env st).runs Ee nx rt br ct := by
  unfold gPat
  rw [h]
  exact q
theorem go_subR {d : D} (q : (fo env st).holds (atE Ee env) fun o st => (fi env st).holds (atE Ee env) fun i st => ∃ st', setR o i d st = some st' ∧ nx env st') : (gSubR fo fi d env st).runs Ee nx rt br ct := by
  refine go_go (q.imp fun o st h => go_go (h.imp fun i st h => ?_))
  obtain ⟨st', e, h⟩ := h
  rw [e]
  exact h
theorem go_frzO {ds : List D} (h : env[i]? = some (.ol ds)) (q : (f (env.set i (.vl (.lst ds))) st).runs Ee nx rt br ct) : (sFrz i f env st).runs Ee nx rt br ct := by
  unfold sFrz
  rw [h]
  exact q
theorem go_frzV {d : D} (h : env[i]? = some (.vl d)) (q : (f env st).runs Ee nx rt br ct) : (sFrz i f env st).runs Ee nx rt br ct := by
  unfold sFrz
  rw [h]
  exact q
theorem go_app {ds : List D} (h : env[i]? = some (.ol ds)) (q : (fe env st).holds (atE Ee env) fun d st => ds.length < sizeLine ∧ nx (env.set i (.ol (ds ++ [d]))) st) : (sApp i fe env st).runs Ee nx rt br ct := by
  unfold sApp
  rw [h]
  show (Res.go env (fe env st) fun d st => if ds.length < sizeLine then ResS.nx (env.set i (.ol (ds ++ [d]))) st else .stuck).runs Ee nx rt br ct
  refine go_go (q.imp fun d st h => ?_)
  rw [if_pos h.1]
  exact h.2
theorem go_for {tg : D → En → Store → ResS} (q : (fl env st).holds (atE Ee env) fun ds st => (forL tg f ds env st).runs Ee nx rt br ct) : (sFor fl tg f env st).runs Ee nx rt br ct := go_go q
/-- a loop by what holds between two turns -/
theorem go_loop {tg : D → En → Store → ResS} (I : List D → En → Store → Prop) : ∀ {ds : List D} {env : En} {st : Store}, I ds env st → (∀ env st, I [] env st → nx env st) →
    (∀ d r env st, I (d :: r) env st → (tg d env st).runs Ee (fun env st => (f env st).runs Ee (I r) rt nx (I r)) noR no no) → (forL tg f ds env st).runs Ee nx rt br ct
  | [], env, st, h, hn, _ => hn env st h
  | d :: ds, env, st, h, hn, hs => by
    have q := hs d ds env st h
    unfold forL
    revert q
    generalize tg d env st = r
    intro q
    cases r with
    | nx env1 st1 =>
      have q' : (f env1 st1).runs Ee (I ds) rt nx (I ds) := q
      show (match f env1 st1 with
        | .nx env st => forL tg f ds env st
        | .ct env st => forL tg f ds env st
        | .br env st => .nx env st
        | r => r).runs Ee nx rt br ct
      revert q'
      generalize f env1 st1 = r2
      intro q'
      cases r2 with
      | nx env2 st2 => exact go_loop I q' hn hs
      | ct env2 st2 => exact go_loop I q' hn hs
      | br env2 st2 => exact q'
      | rt d st2 => exact q'
      | er e env2 st2 => exact q'
      | stuck => exact q'
    | er e env1 st1 => exact q
    | _ => exact (q : False).elim
/-! expressions -/
theorem go_name {d : D} (h : env[i]? = some (.vl d)) (q : P d st) : (vName i env st).holds E P := by
  unfold vName
  rw [h]
  exact q
theorem go_c {d : D} (q : P d st) : (vC d env st).holds E P := q
theorem go_v2 {α : Type} {F : D → D → Store → Res α} {P : α → Store → Prop} (q : (fa env st).holds E fun x st => (fb env st).holds E fun y st => (F x y st).holds E P) : (v2 F fa fb env st).holds E P := by
  unfold v2
  rw [Res.holds_bind]
  refine q.imp fun x st h => ?_
  rw [Res.holds_bind]
  exact h
theorem go_v1 {α : Type} {F : D → Store → Res α} {P : α → Store → Prop} (q : (fa env st).holds E fun x st => (F x st).holds E P) : (v1 F fa env st).holds E P := by
  unfold v1
  rw [Res.holds_bind]
  exact q
theorem go_vA {α : Type} {F : List D → Store → Res α} {P : α → Store → Prop} (q : (fl env st).holds E fun x st => (F x st).holds E P) : (vA F fl env st).holds E P := by
  unfold vA
  rw [Res.holds_bind]
  exact q
theorem go_vNil (q : PL [] st) : (vNil env st).holds E PL := q
theorem go_vCons (q : (fa env st).holds E fun x st => (fl env st).holds E fun xs st => PL (x :: xs) st) : (vCons fa fl env st).holds E PL := by
  unfold vCons
  rw [Res.holds_bind]
  refine q.imp fun x st h => ?_
  rw [Res.holds_bind]
  exact h
theorem go_vB (q : (fa env st).holds E fun d st => ∃ c, d = .bl c ∧ PB c st) : (vB fa env st).holds E PB := by
  unfold vB toB
  rw [Res.holds_bind]
  refine q.imp fun d st h => ?_
  obtain ⟨c, rfl, h⟩ := h
  exact h
theorem go_vNot (q : (t env st).holds E fun c st => PB (!c) st) : (vNot t env st).holds E PB := by
  unfold vNot
  rw [Res.holds_bind]
  exact q
theorem go_vAnd (q : (t env st).holds E fun c st => (c = true → (u env st).holds E PB) ∧ (c = false → PB false st)) : (vAnd t u env st).holds E PB := by
  unfold vAnd
  rw [Res.holds_bind]
  refine q.imp fun c st h => ?_
  cases c with
  | true => exact h.1 rfl
  | false => exact h.2 rfl
theorem go_vOr (q : (t env st).holds E fun c st => (c = true → PB true st) ∧ (c = false → (u env st).holds E PB)) : (vOr t u env st).holds E PB := by
  unfold vOr
  rw [Res.holds_bind]
  refine q.imp fun c st h => ?_
  cases c with
  | true => exact h.1 rfl
  | false => exact h.2 rfl
theorem go_vAndV (q : (fa env st).holds E fun d st => ∃ c, d = .bl c ∧ (c = true → (fb env st).holds E P) ∧ (c = false → P (.bl false) st)) : (vAndV fa fb env st).holds E P := by
  unfold vAndV
  rw [Res.holds_bind]
  refine q.imp fun d st h => ?_
  obtain ⟨c, rfl, h⟩ := h
  cases c with
  | true => exact h.1 rfl
  | false => exact h.2 rfl
theorem go_vOrV (q : (fa env st).holds E fun d st => ∃ c, d = .bl c ∧ (c = true → P (.bl true) st) ∧ (c = false → (fb env st).holds E P)) : (vOrV fa fb env st).holds E P := by
  unfold vOrV
  rw [Res.holds_bind]
  refine q.imp fun d st h => ?_
  obtain ⟨c, rfl, h⟩ := h
  cases c with
  | true => exact h.1 rfl
  | false => exact h.2 rfl
theorem go_vNotV (q : (fa env st).holds E fun d st => ∃ c, d = .bl c ∧ P (.bl (!c)) st) : (vNotV fa env st).holds E P := by
  unfold vNotV
  rw [Res.holds_bind]
  refine q.imp fun d st h => ?_
  obtain ⟨c, rfl, h⟩ := h
  exact h
theorem go_vIf {α : Type} {f g : En → Store → Res α} {P : α → Store → Prop} (q : (t env st).holds E fun c st => (c = true → (f env st).holds E P) ∧ (c = false → (g env st).holds E P)) : (vIf t f g env st).holds E P := by
  unfold vIf
  rw [Res.holds_bind]
  refine q.imp fun c st h => ?_
  cases c with
  | true => exact h.1 rfl
  | false => exact h.2 rfl
theorem go_chain {F F' : D → D → Store → Res D} (q : (fa env st).holds E fun x st => (fb env st).holds E fun y st => (F x y st).holds E fun d st => ∃ c, d = .bl c ∧ (c = true → (fc env st).holds E fun z st => (F' y z st).holds E P) ∧ (c = false → P (.bl false) st)) : (vChain F F' fa fb fc env st).holds E P := by
  unfold vChain
  rw [Res.holds_bind]
  refine q.imp fun x st h => ?_
  rw [Res.holds_bind]
  refine h.imp fun y st h => ?_
  rw [Res.holds_bind]
  refine h.imp fun d st h => ?_
  obtain ⟨c, rfl, h⟩ := h
  cases c with
  | true =>
    show ((fc env st).bind fun z st => F' y z st).holds E P
    rw [Res.holds_bind]
    exact h.1 rfl
  | false => exact h.2 rfl
theorem go_vFrz (q : (fs env st).holds E fun s st => (frz s st).holds E P) : (vFrz fs env st).holds E P := by
  unfold vFrz
  rw [Res.holds_bind]
  exact q
theorem go_vRef (q : (fs env st).holds E fun s st => (toRef s st).holds E P) : (vRef fs env st).holds E P := by
  unfold vRef
  rw [Res.holds_bind]
  exact q
theorem go_vSl (q : (fe env st).holds E fun d st => PS (.vl d) st) : (vSl fe env st).holds E PS := by
  unfold vSl
  rw [Res.holds_bind]
  exact q
theorem go_frz {ds : List D} (q : P (.lst ds) st) : (frz (.ol ds) st).holds E P := q
theorem go_frz2 {d : D} (q : P d st) : (frz (.vl d) st).holds E P := q
theorem go_toRef {ds : List D} (q : P (.ref st.length) (st ++ [.cell (.ol ds)])) : (toRef (.ol ds) st).holds E P := q
theorem line1000 : (1000 : Nat) ≤ sizeLine := by decide
theorem line100000 : (100000 : Nat) ≤ sizeLine := by decide
theorem go_mkTup {xs : List D} (h : xs.length ≤ 1000) (q : P (.tup xs) st) : (mkTup xs st).holds E P := by
  unfold mkTup
  rw [if_pos (Nat.le_trans h line1000)]
  exact q
theorem go_mkLst {xs : List D} (h : xs.length ≤ 1000) (q : PS (.ol xs) st) : (mkLst xs st).holds E PS := by
  unfold mkLst
  rw [if_pos (Nat.le_trans h line1000)]
  exact q
theorem atD_nodict {st : Store} {x : D} {n : Int} {d : D} (h : atD st x n = some d) : dictOf st x = none := by
  cases x with
  | ref m =>
    have h : (match st[m]? with | some (.cell (.ol ds)) => atI ds n | _ => none) = some d := h
    show (match st[m]? with | some (.cell (.od _ kvs)) => some kvs | _ => none) = none
    split at h
    · next ds e => rw [e]
    · cases h
  | dct _ => cases h
  | _ => rfl
theorem go_ix {x : D} {n : Int} {d : D} (h : atD st x n = some d) (q : P d st) : (ixD x (.int n) st).holds E P := by
  unfold ixD
  simp only [atD_nodict h, h]
  exact q
theorem go_ixD {x y : D} {kvs : List (DK × D)} {k : DK} {d : D} (h : dictOf st x = some kvs) (hk : dkOf y = some k) (hd : lkD kvs k = some d) (q : P d st) : (ixD x y st).holds E P := by
  unfold ixD
  simp only [h, hk, hd]
  exact q
theorem go_ixO {ds : List D} (h : env[i]? = some (.ol ds)) (q : (fb env st).holds E fun y st => ∃ n d, y = .int n ∧ atI ds n = some d ∧ P d st) : (vIxO i fb env st).holds E P := by
  unfold vIxO
  rw [h]
  show ((fb env st).bind _).holds E P
  rw [Res.holds_bind]
  refine q.imp fun y st h => ?_
  obtain ⟨n, d, rfl, e, h⟩ := h
  simp only [e]
  exact h
theorem go_lenO {ds : List D} (h : env[i]? = some (.ol ds)) (q : P (.int ds.length) st) : (vLenO i env st).holds E P := by
  unfold vLenO
  rw [h]
  exact q
theorem go_add {a b : Int} (q : P (.int (a + b)) st) : (addD (.int a) (.int b) st).holds E P := q
theorem go_sub {a b : Int} (q : P (.int (a - b)) st) : (subD (.int a) (.int b) st).holds E P := q
theorem go_neg {a : Int} (q : P (.int (-a)) st) : (negD (.int a) st).holds E P := q
theorem go_mul {a b : Int} (h : a.natAbs.log2 + b.natAbs.log2 < 1000000) (q : P (.int (a * b)) st) : (mulD (.int a) (.int b) st).holds E P := by
  unfold mulD intD
  simp only [h, decide_true, if_true]
  exact q
theorem go_mod {a b : Int} (h : 0 < b) (q : P (.int (a % b)) st) : (modD (.int a) (.int b) st).holds E P := by
  unfold modD intD
  simp only [h, decide_true, if_true]
  exact q
theorem go_fdiv {a b : Int} (h : 0 < b) (h2 : b.natAbs.log2 < 9000) (q : P (.int (a / b)) st) : (fdivD (.int a) (.int b) st).holds E P := by
  unfold fdivD intD
  simp only [h, h2, decide_true, Bool.and_self, if_true]
  exact q
theorem go_pow {a b : Int} (h : 0 ≤ b) (h2 : ((Builtin.Int.intBits a : Nat) : Int) * b ≤ 2 ^ 27) (q : P (.int (a ^ b.toNat)) st) : (powD (.int a) (.int b) st).holds E P := by
  unfold powD intD
  simp only [h, h2, decide_true, Bool.and_self, if_true]
  exact q
theorem go_lt {a b : Int} (q : P (.bl (decide (a < b))) st) : (ltD (.int a) (.int b) st).holds E P := q
theorem go_le {a b : Int} (q : P (.bl (decide (a ≤ b))) st) : (leD (.int a) (.int b) st).holds E P := q
theorem go_gt {a b : Int} (q : P (.bl (decide (b < a))) st) : (gtD (.int a) (.int b) st).holds E P := q
theorem go_ge {a b : Int} (q : P (.bl (decide (b ≤ a))) st) : (geD (.int a) (.int b) st).holds E P := q
theorem go_eqI {a b : Int} (q : P (.bl (decide (a = b))) st) : (eqD (.int a) (.int b) st).holds E P := q
theorem go_neI {a b : Int} (q : P (.bl (!decide (a = b))) st) : (neD (.int a) (.int b) st).holds E P := q
theorem go_eqS {a b : Str} (q : P (.bl (decide (a = b))) st) : (eqD (.str a) (.str b) st).holds E P := q
theorem go_neS {a b : Str} (q : P (.bl (!decide (a = b))) st) : (neD (.str a) (.str b) st).holds E P := q
theorem go_isB {a b : Bool} (q : P (.bl (decide (a = b))) st) : (isD (.bl a) (.bl b) st).holds E P := q
theorem go_isntB {a b : Bool} (q : P (.bl (!decide (a = b))) st) : (isntD (.bl a) (.bl b) st).holds E P := q
theorem go_seqL {ds : List D} (q : PL ds st) : (seqF (.lst ds) st).holds E PL := q
theorem go_seqT {ds : List D} (q : PL ds st) : (seqF (.tup ds) st).holds E PL := q
theorem go_rng1 {n : Int} (h : -(2 ^ 62) ≤ n ∧ n < 2 ^ 62) (q : PL (rngD 0 n.toNat) st) : (rng1F [.int n] st).holds E PL := by
  unfold rng1F
  simp only [if_pos h]
  exact q
theorem go_rng2 {m n : Int} (h : -(2 ^ 62) ≤ m ∧ m < 2 ^ 62 ∧ -(2 ^ 62) ≤ n ∧ n < 2 ^ 62) (q : PL (rngD m (n - m).toNat) st) : (rng2F [.int m, .int n] st).holds E PL := by
  unfold rng2F
  simp only [if_pos h]
  exact q
theorem go_abs {a : Int} (q : P (.int (if a < 0 then -a else a)) st) : (absD [.int a] st).holds E P := q
theorem go_max2 {a b : Int} (q : P (.int (if b > a then b else a)) st) : (max2 [.int a, .int b] st).holds E P := q
theorem go_min2 {a b : Int} (q : P (.int (if b < a then b else a)) st) : (min2 [.int a, .int b] st).holds E P := q
theorem go_intI {a : Int} (q : P (.int a) st) : (intOf [.int a] st).holds E P := q
theorem go_intB {a : Bool} (q : P (.int (if a then 1 else 0)) st) : (intOf [.bl a] st).holds E P := q
theorem go_str {a : Int} (h : a.natAbs.log2 < 1920) (q : P (.str (toString a)) st) : (strOf [.int a] st).holds E P := by
  unfold strOf
  simp only [if_pos h]
  exact q
theorem go_lenL {ds : List D} (q : P (.int ds.length) st) : (lenD [.lst ds] st).holds E P := q
theorem go_lenT {ds : List D} (q : P (.int ds.length) st) : (lenD [.tup ds] st).holds E P := q
theorem go_lenC {ds : List Int} (q : P (.int ds.length) st) : (lenD [.scr ds] st).holds E P := q
theorem go_listL {ds : List D} (q : PS (.ol ds) st) : (listOf [.lst ds] st).holds E PS := q
theorem go_listT {ds : List D} (q : PS (.ol ds) st) : (listOf [.tup ds] st).holds E PS := q
theorem go_tupL {ds : List D} (q : P (.tup ds) st) : (tupOfD [.lst ds] st).holds E P := q
theorem go_tupT {ds : List D} (q : P (.tup ds) st) : (tupOfD [.tup ds] st).holds E P := q
theorem go_isi {x : D} {T a : String} (h : tyName x = some a) (hT : T ∈ tyKnown) (q : P (.bl (isTy a T)) st) : (isiD [x, .ty T] st).holds E P := by
  unfold isiD
  simp only [tyR_of h, if_pos hT]
  exact q
theorem go_isi2 {x : D} {T T' a : String} (h : tyName x = some a) (hT : T ∈ tyKnown ∧ T' ∈ tyKnown) (q : P (.bl (isTy a T || isTy a T')) st) : (isiD [x, .tup [.ty T, .ty T']] st).holds E P := by
  unfold isiD
  simp only [tyR_of h, if_pos hT]
  exact q
theorem go_revL {ds : List D} (q : P (.lst ds.reverse) st) : (revF (.lst ds) st).holds E P := q
theorem go_revT {ds : List D} (q : P (.tup ds.reverse) st) : (revF (.tup ds) st).holds E P := q
theorem go_noP {PO : Option Int → Store → Prop} (q : PO none st) : (vNoP env st).holds E PO := q
theorem go_soP {PO : Option Int → Store → Prop} (q : (fe env st).holds E fun d st => ∃ n, d = .int n ∧ PO (some n) st) : (vSoP fe env st).holds E PO := by
  unfold vSoP
  rw [Res.holds_bind]
  refine q.imp fun d st h => ?_
  obtain ⟨n, rfl, h⟩ := h
  exact h
theorem go_slice {fl fh : En → Store → Res (Option Int)} (q : (fa env st).holds E fun x st => (fl env st).holds E fun lo st => (fh env st).holds E fun hi st => ∃ d, slF x lo hi = some d ∧ P d st) : (vSlice fa fl fh env st).holds E P := by
  unfold vSlice
  rw [Res.holds_bind]
  refine q.imp fun x st h => ?_
  rw [Res.holds_bind]
  refine h.imp fun lo st h => ?_
  rw [Res.holds_bind]
  refine h.imp fun hi st h => ?_
  obtain ⟨d, e, h⟩ := h
  rw [e]
  exact h
theorem go_addL {xs ys : List D} (h : xs.length + ys.length ≤ 100000) (q : P (.lst (xs ++ ys)) st) : (addD (.lst xs) (.lst ys) st).holds E P := by
  unfold addD
  simp only [if_pos (Nat.le_trans h line100000)]
  exact q
theorem go_addT {xs ys : List D} (h : xs.length + ys.length ≤ 100000) (q : P (.tup (xs ++ ys)) st) : (addD (.tup xs) (.tup ys) st).holds E P := by
  unfold addD
  simp only [if_pos (Nat.le_trans h line100000)]
  exact q
theorem go_addSL {xs ys : List D} (h : xs.length + ys.length ≤ 100000) (q : PS (.ol (xs ++ ys)) st) : (addS (.lst xs) (.lst ys) st).holds E PS := by
  unfold addS
  simp only [if_pos (Nat.le_trans h line100000)]
  exact q
theorem go_bl {c : Bool} {Q : Bool → Prop} (q : Q c) : ∃ c', D.bl c = .bl c' ∧ Q c' := ⟨c, rfl, q⟩
theorem go_in {c : Int} {Q : Int → Prop} (q : Q c) : ∃ c', D.int c = .int c' ∧ Q c' := ⟨c, rfl, q⟩
theorem go_in2 {α : Type} {c : Int} {Q : Int → α → Prop} (q : ∃ x, Q c x) : ∃ c' x, D.int c = .int c' ∧ Q c' x := by
  obtain ⟨x, h⟩ := q
  exact ⟨c, x, rfl, h⟩
/-- a row of numbers, walked -/
theorem rng_loop {tg : D → En → Store → ResS} {lo : Int} {n : Nat} (I : Nat → En → Store → Prop) {env : En} {st : Store} (h0 : I 0 env st) (hn : ∀ env st, I n env st → nx env st)
    (hs : ∀ m env st, m < n → I m env st → (tg (.int (lo + (m : Int))) env st).runs Ee (fun env st => (f env st).runs Ee (I (m + 1)) rt nx (I (m + 1))) noR no no) : (forL tg f (rngD lo n) env st).runs Ee nx rt br ct := by
  have key : ∀ (k : Nat) (m : Nat), m + k = n → rngD lo n = rngD lo n → ∀ ds, ds = (List.range' m k).map (fun (i : Nat) => D.int (lo + (i : Int))) → ∀ env st, I m env st → (forL tg f ds env st).runs Ee nx rt br ct := by
    intro k m hm _ ds hds env st hI
    refine go_loop (fun ds env st => ∃ m k, m + k = n ∧ ds = (List.range' m k).map (fun (i : Nat) => D.int (lo + (i : Int))) ∧ I m env st) ⟨m, k, hm, hds, hI⟩ ?_ ?_
    · rintro env st ⟨m, k, hm, e, h⟩
      cases k with
      | zero => rw [Nat.add_zero] at hm; subst hm; exact hn env st h
      | succ k => rw [List.range'_succ] at e; cases e
    · rintro d r env st ⟨m, k, hm, e, h⟩
      cases k with
      | zero => cases e
      | succ k =>
        rw [List.range'_succ, List.map_cons] at e
        injection e with e1 e2
        subst e1 e2
        have hlt : m < n := by omega
        have q := hs m env st hlt h
        revert q
        generalize tg (.int (lo + (m : Int))) env st = r
        intro q
        cases r with
        | nx env1 st1 =>
          have q' : (f env1 st1).runs Ee (I (m + 1)) rt nx (I (m + 1)) := q
          show (f env1 st1).runs Ee _ _ _ _
          revert q'
          generalize f env1 st1 = r2
          intro q'
          cases r2 with
          | nx env2 st2 => exact ⟨m + 1, k, by omega, rfl, q'⟩
          | ct env2 st2 => exact ⟨m + 1, k, by omega, rfl, q'⟩
          | br env2 st2 => exact q'
          | rt d st2 => exact q'
          | er e env2 st2 => exact q'
          | stuck => exact q'
        | er e env1 st1 => exact q
        | _ => exact (q : False).elim
  refine key n 0 (by omega) rfl _ ?_ env st h0
  unfold rngD
  rw [List.range_eq_range']
end
end EV

set_option Elab.async false
set_option linter.all false
set_option autoImplicit false
set_option maxRecDepth 100000
set_option maxHeartbeats 400000
/-! plain data: what may be shown and told apart -/
namespace EV
open PySem PySem.Spec PyProof.Rows L2
variable {E : ErP} {Ee : ErS}

mutual
def pl (N : Nat) : D → Bool
  | .non => true
  | .bl _ => true
  | .int i => decide (i.natAbs < N)
  | .str x => x.cps.all (· < 0x110000)
  | .tup xs => pls N xs
  | .lst xs => pls N xs
  | _ => false
def pls (N : Nat) : List D → Bool
  | [] => true
  | x :: xs => pl N x && pls N xs
end
mutual
def dep : D → Nat
  | .tup xs => deps xs + 1
  | .lst xs => deps xs + 1
  | _ => 0
def deps : List D → Nat
  | [] => 0
  | x :: xs => max (dep x) (deps xs)
end
mutual
def wt : D → Nat
  | .int _ => 40
  | .str x => x.cps.size
  | .tup xs => wts xs
  | .lst xs => wts xs
  | _ => 0
def wts : List D → Nat
  | [] => 0
  | x :: xs => wt x + 1 + wts xs
end
theorem log_lt {a : Int} {k : Nat} (hk : 0 < k) (h : a.natAbs < 2 ^ k) : a.natAbs.log2 < k := by
  by_cases h0 : a.natAbs = 0
  · rw [h0]; simpa using hk
  · exact (Nat.log2_lt h0).mpr h
theorem lg2 {a b : Int} (h : a.natAbs < 2 ^ 200) (h' : b.natAbs < 2 ^ 200) : a.natAbs.log2 + b.natAbs.log2 < 1000000 := by
  have := log_lt (k := 200) (by decide) h
  have := log_lt (k := 200) (by decide) h'
  omega
theorem lg1 {b : Int} (h' : b.natAbs < 2 ^ 200) : b.natAbs.log2 < 9000 := by
  have := log_lt (k := 200) (by decide) h'
  omega
theorem pl_int {N : Nat} {i : Int} (h : pl N (.int i) = true) : i.natAbs < N := by
  unfold pl at h
  exact of_decide_eq_true h
theorem short_int {i : Int} (h : i.natAbs < 10 ^ 12) : (PyData.shown (.int i)).length ≤ 13 := by
  unfold PyData.shown
  show (Str.ofString (toString i)).length ≤ 13
  rw [PySem.ofString_length]
  exact int_text_length_le10 (k := 12) (by decide) h
theorem int_log {i : Int} (h : i.natAbs < 10 ^ 12) : i.natAbs.log2 < 40 := log_lt (by decide) (Nat.lt_trans h (by decide))
mutual
theorem pl_pd {N : Nat} (hN : N ≤ 10 ^ 12) : ∀ d : D, pl N d = true → ∃ p, d.pd = some p ∧ p.showable = true ∧ p.hasDict = false ∧ p.canLay0 = true ∧ p.depth = dep d ∧ p.weight ≤ wt d ∧ p.leavesShort 13 = true
  | .non, _ => ⟨.none, rfl, by unfold PyData.showable; rfl, by unfold PyData.hasDict; rfl, by unfold PyData.canLay0; rfl, by unfold PyData.depth dep; rfl, by unfold PyData.weight; exact Nat.zero_le _, by unfold PyData.leavesShort; rfl⟩
  | .bl b, _ => ⟨.bool b, rfl, by unfold PyData.showable; rfl, by unfold PyData.hasDict; rfl, by unfold PyData.canLay0; rfl, by unfold PyData.depth dep; rfl, by unfold PyData.weight; exact Nat.zero_le _, by unfold PyData.leavesShort; rfl⟩
  | .int i, h => ⟨.int i, rfl, by
      have := int_log (Nat.lt_of_lt_of_le (pl_int h) hN)
      unfold PyData.showable; exact decide_eq_true (by omega), by unfold PyData.hasDict; rfl, by unfold PyData.canLay0; rfl, by unfold PyData.depth dep; rfl, by
      have := int_log (Nat.lt_of_lt_of_le (pl_int h) hN)
      unfold PyData.weight wt
      split <;> omega, by
      have := short_int (Nat.lt_of_lt_of_le (pl_int h) hN)
      unfold PyData.leavesShort
      exact decide_eq_true this⟩
  | .str x, h => ⟨.str x, rfl, by unfold PyData.showable; rfl, by unfold PyData.hasDict; rfl, by
      unfold PyData.canLay0; unfold pl at h; exact h, by unfold PyData.depth dep; rfl, by unfold PyData.weight wt; exact Nat.le_refl _, by
      unfold PyData.leavesShort
      unfold pl at h
      rw [← Array.all_toList, List.all_eq_true] at h
      rw [List.all_eq_true]
      intro c hc
      have := of_decide_eq_true (h c hc)
      exact decide_eq_true (Nat.lt_trans this (by decide))⟩
  | .tup xs, h => by
    unfold pl at h
    obtain ⟨ps, e, h1, h2, h3, h4, h5, h6⟩ := pls_pds hN xs h
    refine ⟨.tuple ps, by unfold D.pd; rw [e]; rfl, by unfold PyData.showable; exact h1, by unfold PyData.hasDict; exact h2, by unfold PyData.canLay0; exact h3, by unfold PyData.depth dep; rw [h4], by unfold PyData.weight wt; exact h5, by unfold PyData.leavesShort; exact h6⟩
  | .lst xs, h => by
    unfold pl at h
    obtain ⟨ps, e, h1, h2, h3, h4, h5, h6⟩ := pls_pds hN xs h
    refine ⟨.list ps, by unfold D.pd; rw [e]; rfl, by unfold PyData.showable; exact h1, by unfold PyData.hasDict; exact h2, by unfold PyData.canLay0; exact h3, by unfold PyData.depth dep; rw [h4], by unfold PyData.weight wt; exact h5, by unfold PyData.leavesShort; exact h6⟩
  | .dct _, h => by unfold pl at h; cases h
  | .st _, h => by unfold pl at h; cases h
  | .ref _, h => by unfold pl at h; cases h
  | .fn _, h => by unfold pl at h; cases h
  | .ty _, h => by unfold pl at h; cases h
  | .scr _, h => by unfold pl at h; cases h
theorem pls_pds {N : Nat} (hN : N ≤ 10 ^ 12) : ∀ ds : List D, pls N ds = true → ∃ ps, D.pds ds = some ps ∧ PyData.showableAll ps = true ∧ PyData.hasDictAll ps = false ∧ PyData.canLayAll0 ps = true ∧ PyData.depthAll ps = deps ds ∧ PyData.weightAll ps ≤ wts ds ∧ PyData.leavesShortAll 13 ps = true
  | [], _ => ⟨[], rfl, by unfold PyData.showableAll; rfl, by unfold PyData.hasDictAll; rfl, by unfold PyData.canLayAll0; rfl, by unfold PyData.depthAll deps; rfl, by unfold PyData.weightAll; exact Nat.zero_le _, by unfold PyData.leavesShortAll; rfl⟩
  | x :: xs, h => by
    unfold pls at h
    obtain ⟨ha, hb⟩ := Bool.and_eq_true_iff.mp h
    obtain ⟨p, e, h1, h2, h3, h4, h5, h6⟩ := pl_pd hN x ha
    obtain ⟨ps, e', k1, k2, k3, k4, k5, k6⟩ := pls_pds hN xs hb
    refine ⟨p :: ps, by unfold D.pds; rw [e, e'], by unfold PyData.showableAll; rw [h1, k1]; rfl, by unfold PyData.hasDictAll; rw [h2, k2]; rfl, by unfold PyData.canLayAll0; rw [h3, k3]; rfl, by unfold PyData.depthAll deps; rw [h4, k4], by unfold PyData.weightAll wts; omega, by unfold PyData.leavesShortAll; rw [h6, k6]; rfl⟩
end
mutual
theorem pl_up {N N' : Nat} (hN : N ≤ N') : ∀ d : D, pl N d = true → pl N' d = true
  | .non, _ => by unfold pl; rfl
  | .bl _, _ => by unfold pl; rfl
  | .int i, h => by unfold pl; exact decide_eq_true (Nat.lt_of_lt_of_le (pl_int h) hN)
  | .str x, h => by unfold pl at h ⊢; exact h
  | .tup xs, h => by unfold pl at h ⊢; exact pls_up hN xs h
  | .lst xs, h => by unfold pl at h ⊢; exact pls_up hN xs h
  | .dct _, h => by unfold pl at h; cases h
  | .st _, h => by unfold pl at h; cases h
  | .ref _, h => by unfold pl at h; cases h
  | .fn _, h => by unfold pl at h; cases h
  | .ty _, h => by unfold pl at h; cases h
  | .scr _, h => by unfold pl at h; cases h
theorem pls_up {N N' : Nat} (hN : N ≤ N') : ∀ ds : List D, pls N ds = true → pls N' ds = true
  | [], _ => by unfold pls; rfl
  | x :: xs, h => by
    unfold pls at h ⊢
    obtain ⟨ha, hb⟩ := Bool.and_eq_true_iff.mp h
    rw [pl_up hN x ha, pls_up hN xs hb]
    rfl
end
/-- may be shown -/
def Gd (N n w : Nat) (d : D) : Prop := pl N d = true ∧ dep d ≤ n ∧ wt d ≤ w
def Gds (N n w : Nat) (ds : List D) : Prop := pls N ds = true ∧ deps ds ≤ n ∧ wts ds ≤ w
theorem Gd.up {N N' n w : Nat} {d : D} (h : Gd N n w d) (hN : N ≤ N') : Gd N' n w d := ⟨pl_up hN d h.1, h.2⟩
theorem Gd.le {N n w n' w' : Nat} {d : D} (h : Gd N n w d) (h1 : n ≤ n') (h2 : w ≤ w') : Gd N n' w' d := ⟨h.1, Nat.le_trans h.2.1 h1, Nat.le_trans h.2.2 h2⟩
theorem Gds.le {N n w n' w' : Nat} {d : List D} (h : Gds N n w d) (h1 : n ≤ n') (h2 : w ≤ w') : Gds N n' w' d := ⟨h.1, Nat.le_trans h.2.1 h1, Nat.le_trans h.2.2 h2⟩
theorem Gd.tup {N n w : Nat} {ds : List D} (h : Gds N n w ds) : Gd N (n + 1) w (.tup ds) := ⟨by unfold pl; exact h.1, by unfold dep; exact Nat.succ_le_succ h.2.1, by unfold wt; exact h.2.2⟩
theorem Gd.lst {N n w : Nat} {ds : List D} (h : Gds N n w ds) : Gd N (n + 1) w (.lst ds) := ⟨by unfold pl; exact h.1, by unfold dep; exact Nat.succ_le_succ h.2.1, by unfold wt; exact h.2.2⟩
theorem Gd.of_tup {N n w : Nat} {ds : List D} (h : Gd N (n + 1) w (.tup ds)) : Gds N n w ds := by
  obtain ⟨a, b, c⟩ := h
  unfold pl at a; unfold dep at b; unfold wt at c
  exact ⟨a, by omega, c⟩
theorem Gd.of_lst {N n w : Nat} {ds : List D} (h : Gd N (n + 1) w (.lst ds)) : Gds N n w ds := by
  obtain ⟨a, b, c⟩ := h
  unfold pl at a; unfold dep at b; unfold wt at c
  exact ⟨a, by omega, c⟩
theorem Gds.nil {N n w : Nat} : Gds N n w [] := ⟨by unfold pls; rfl, by unfold deps; omega, by unfold wts; omega⟩
theorem Gds.cons {N n w w' : Nat} {d : D} {ds : List D} (h : Gd N n w d) (h' : Gds N n w' ds) : Gds N n (w + 1 + w') (d :: ds) := by
  obtain ⟨a, b, c⟩ := h
  obtain ⟨a', b', c'⟩ := h'
  exact ⟨by unfold pls; rw [a, a']; rfl, by unfold deps; omega, by unfold wts; omega⟩
theorem Gds.app {N n w w' : Nat} : ∀ {as bs : List D}, Gds N n w as → Gds N n w' bs → Gds N n (w + w') (as ++ bs)
  | [], bs, _, h => h.le (Nat.le_refl _) (by omega)
  | a :: as, bs, ⟨h1, h2, h3⟩, h' => by
    unfold pls at h1; unfold deps at h2; unfold wts at h3
    obtain ⟨ha, hb⟩ := Bool.and_eq_true_iff.mp h1
    have := Gds.app (as := as) (w := w - (wt a + 1)) ⟨hb, by omega, by omega⟩ h'
    exact (Gds.cons ⟨ha, Nat.le_trans (Nat.le_max_left _ _) h2, Nat.le_refl _⟩ this).le (Nat.le_refl _) (by omega)
theorem Gds.sub {N n w : Nat} {as bs : List D} (h : List.Sublist as bs) : Gds N n w bs → Gds N n w as := by
  induction h generalizing w with
  | slnil => exact id
  | cons a h ih =>
    rintro ⟨h1, h2, h3⟩
    unfold pls at h1; unfold deps at h2; unfold wts at h3
    exact ih ⟨(Bool.and_eq_true_iff.mp h1).2, by omega, by omega⟩
  | cons_cons a h ih =>
    rintro ⟨h1, h2, h3⟩
    unfold pls at h1; unfold deps at h2; unfold wts at h3
    have := ih (w := w - (wt a + 1)) ⟨(Bool.and_eq_true_iff.mp h1).2, by omega, by omega⟩
    exact (Gds.cons ⟨(Bool.and_eq_true_iff.mp h1).1, Nat.le_trans (Nat.le_max_left _ _) h2, Nat.le_refl _⟩ this).le (Nat.le_refl _) (by omega)
theorem Gds.mem {N n w : Nat} {d : D} : ∀ {ds : List D}, Gds N n w ds → d ∈ ds → Gd N n w d
  | a :: as, ⟨h1, h2, h3⟩, hm => by
    unfold pls at h1; unfold deps at h2; unfold wts at h3
    obtain ⟨ha, hb⟩ := Bool.and_eq_true_iff.mp h1
    rcases List.mem_cons.mp hm with rfl | hm
    · exact ⟨ha, by omega, by omega⟩
    · exact (Gds.mem (ds := as) (w := w - (wt a + 1)) ⟨hb, by omega, by omega⟩ hm).le (Nat.le_refl _) (by omega)
theorem Gds.rev {N n w : Nat} {ds : List D} (h : Gds N n w ds) : Gds N n w ds.reverse := by
  induction ds generalizing w with
  | nil => exact h
  | cons a as ih =>
    obtain ⟨h1, h2, h3⟩ := h
    unfold pls at h1; unfold deps at h2; unfold wts at h3
    obtain ⟨ha, hb⟩ := Bool.and_eq_true_iff.mp h1
    rw [List.reverse_cons]
    exact (Gds.app (ih (w := w - (wt a + 1)) ⟨hb, by omega, by omega⟩) (Gds.cons (w := wt a) (w' := 0) ⟨ha, by omega, Nat.le_refl _⟩ Gds.nil)).le (Nat.le_refl _) (by omega)
/-- one of the row is put in another's stead -/
theorem Gds.set {N n n' w w' : Nat} {d d' : D} : ∀ {ds : List D} {i : Nat}, Gds N n w ds → n ≤ n' → ds[i]? = some d → Gd N n' w' d' → Gds N n' (w - wt d + w') (ds.set i d')
  | a :: as, 0, ⟨h1, h2, h3⟩, hn, e, hd => by
    unfold pls at h1; unfold deps at h2; unfold wts at h3
    cases e
    exact (Gds.cons hd (w' := w - (wt d + 1)) ⟨(Bool.and_eq_true_iff.mp h1).2, by omega, by omega⟩).le (Nat.le_refl _) (by omega)
  | a :: as, i + 1, ⟨h1, h2, h3⟩, hn, e, hd => by
    unfold pls at h1; unfold deps at h2; unfold wts at h3
    have e' : as[i]? = some d := e
    have hg : Gds N n (w - (wt a + 1)) as := ⟨(Bool.and_eq_true_iff.mp h1).2, Nat.le_trans (Nat.le_max_right _ _) h2, by omega⟩
    have := Gds.set (ds := as) (i := i) hg hn e' hd
    have hw := (hg.mem (List.mem_of_getElem? e')).2.2
    exact (Gds.cons (w := wt a) ⟨(Bool.and_eq_true_iff.mp h1).1, Nat.le_trans (Nat.le_trans (Nat.le_max_left _ _) h2) hn, Nat.le_refl _⟩ this).le (Nat.le_refl _) (by omega)
theorem gd_int {N n : Nat} {i : Int} (h : i.natAbs < N) : Gd N n 40 (.int i) := ⟨by unfold pl; exact decide_eq_true h, by unfold dep; omega, by unfold wt; omega⟩
theorem gd_str {N n w : Nat} {x : Str} (h : x.cps.all (· < 0x110000) = true) (hw : x.cps.size ≤ w) : Gd N n w (.str x) := ⟨by unfold pl; exact h, by unfold dep; omega, by unfold wt; exact hw⟩
theorem ofString_all (s : String) : (Str.ofString s).cps.all (· < 0x110000) = true := by
  rw [Str.ofString_eq_toList, ← Array.all_toList, List.all_eq_true]
  intro c hc
  simp only [List.mem_map] at hc
  obtain ⟨ch, _, rfl⟩ := hc
  refine decide_eq_true ?_
  have := ch.valid
  rcases this with h | h
  · exact Nat.lt_trans h (by decide)
  · exact h.2
theorem gd_toStr {N n : Nat} {i : Int} (h : i.natAbs < 10 ^ 12) : Gd N n 13 (.str (toString i)) :=
  gd_str (ofString_all _) (by
    show (Str.ofString (toString i)).length ≤ 13
    rw [PySem.ofString_length]
    exact int_text_length_le10 (k := 12) (by decide) h)
theorem go_repr {N n w : Nat} {d : D} {st : Store} {P : D → Store → Prop} (h : Gd N n w d) (hN : N ≤ 10 ^ 12) (hn : n ≤ 64) (hw : w ≤ 1000000) (q : ∀ p, d.pd = some p → P (.str p.shown) st) : (reprD [d] st).holds E P := by
  obtain ⟨p, e, h1, h2, h3, h4, h5, h6⟩ := pl_pd hN d h.1
  have hd := h.2.1
  have hw' := h.2.2
  have h20 : (2 : Nat) ^ 20 = 1048576 := by decide
  have hb := PyData.shown_fits (by decide) (by decide) h6 (show p.weight ≤ 2 ^ 20 by omega)
  show Res.holds (match pdR st d with
    | some d => if d.showable = true ∧ d.hasDict = false ∧ d.depth ≤ 64 ∧ d.shown.length ≤ sizeLine then .ok (.str d.shown) st else .stuck
    | none => .stuck) E P
  rw [pdR_of e]
  have hh : p.showable = true ∧ p.hasDict = false ∧ p.depth ≤ 64 ∧ p.shown.length ≤ sizeLine := ⟨h1, h2, by omega, hb⟩
  simp only [if_pos hh]
  exact q p e
/-- the text of what is shown -/
def shw (d : D) : Str := match d.pd with
  | some p => p.shown
  | none => ""
theorem go_shw {N n w : Nat} {d : D} {st : Store} {P : D → Store → Prop} (h : Gd N n w d) (hN : N ≤ 10 ^ 12) (hn : n ≤ 64) (hw : w ≤ 1000000) (q : P (.str (shw d)) st) : (reprD [d] st).holds E P :=
  go_repr h hN hn hw fun p e => by
    unfold shw at q
    rw [e] at q
    exact q
theorem ty_gd {N : Nat} {d : D} (h : pl N d = true) : ∃ a, tyName d = some a := by
  cases d with
  | non => exact ⟨_, rfl⟩
  | bl b => exact ⟨_, rfl⟩
  | int i => exact ⟨_, rfl⟩
  | str x => exact ⟨_, rfl⟩
  | tup xs => exact ⟨_, rfl⟩
  | lst xs => exact ⟨_, rfl⟩
  | _ => unfold pl at h; cases h
theorem Gds.len {N n w : Nat} : ∀ {ds : List D}, Gds N n w ds → ds.length ≤ w
  | [], _ => Nat.zero_le _
  | a :: as, ⟨h1, h2, h3⟩ => by
    unfold pls at h1; unfold deps at h2; unfold wts at h3
    have := Gds.len (ds := as) (N := N) (n := n) (w := w - (wt a + 1)) ⟨(Bool.and_eq_true_iff.mp h1).2, by omega, by omega⟩
    rw [List.length_cons]
    omega
theorem cut_sub {α : Type} (xs : List α) (lo hi : Option Int) : List.Sublist (cutD xs lo hi) xs := (List.take_sublist _ _).trans (List.drop_sublist _ _)
section
variable {Q R : Prop}
theorem go_tt (q : Q) : (true = true → Q) ∧ (true = false → R) := ⟨fun _ => q, fun h => nomatch h⟩
theorem go_ff (q : R) : (false = true → Q) ∧ (false = false → R) := ⟨fun h => (nomatch h), fun _ => q⟩
theorem go_ntt (q : R) : ((!true) = true → Q) ∧ ((!true) = false → R) := ⟨fun h => (nomatch h), fun _ => q⟩
theorem go_nff (q : Q) : ((!false) = true → Q) ∧ ((!false) = false → R) := ⟨fun _ => q, fun h => nomatch h⟩
theorem go_dt {p : Prop} [Decidable p] (hp : p) (q : Q) : (decide p = true → Q) ∧ (decide p = false → R) := ⟨fun _ => q, fun h => absurd hp (of_decide_eq_false h)⟩
theorem go_df {p : Prop} [Decidable p] (hp : ¬p) (q : R) : (decide p = true → Q) ∧ (decide p = false → R) := ⟨fun h => absurd (of_decide_eq_true h) hp, fun _ => q⟩
theorem go_d {p : Prop} [Decidable p] (q : p → Q) (r : ¬p → R) : (decide p = true → Q) ∧ (decide p = false → R) := ⟨fun h => q (of_decide_eq_true h), fun h => r (of_decide_eq_false h)⟩
theorem go_ndt {p : Prop} [Decidable p] (hp : p) (q : R) : ((!decide p) = true → Q) ∧ ((!decide p) = false → R) := ⟨fun h => by simp [hp] at h, fun _ => q⟩
theorem go_ndf {p : Prop} [Decidable p] (hp : ¬p) (q : Q) : ((!decide p) = true → Q) ∧ ((!decide p) = false → R) := ⟨fun _ => q, fun h => by simp [hp] at h⟩
theorem go_nd {p : Prop} [Decidable p] (q : ¬p → Q) (r : p → R) : ((!decide p) = true → Q) ∧ ((!decide p) = false → R) := ⟨fun h => q (by simpa using h), fun h => r (by simpa using h)⟩
end
theorem go_isiT {x : D} {T a : String} {st : Store} {P : D → Store → Prop} (h : tyName x = some a) (hT : T ∈ tyKnown) (hb : isTy a T = true) (q : P (.bl true) st) : (isiD [x, .ty T] st).holds E P := go_isi h hT (by rw [hb]; exact q)
theorem go_isiF {x : D} {T a : String} {st : Store} {P : D → Store → Prop} (h : tyName x = some a) (hT : T ∈ tyKnown) (hb : isTy a T = false) (q : P (.bl false) st) : (isiD [x, .ty T] st).holds E P := go_isi h hT (by rw [hb]; exact q)
theorem go_isi2T {x : D} {T T' a : String} {st : Store} {P : D → Store → Prop} (h : tyName x = some a) (hT : T ∈ tyKnown ∧ T' ∈ tyKnown) (hb : (isTy a T || isTy a T') = true) (q : P (.bl true) st) : (isiD [x, .tup [.ty T, .ty T']] st).holds E P := go_isi2 h hT (by rw [hb]; exact q)
theorem go_isi2F {x : D} {T T' a : String} {st : Store} {P : D → Store → Prop} (h : tyName x = some a) (hT : T ∈ tyKnown ∧ T' ∈ tyKnown) (hb : (isTy a T || isTy a T') = false) (q : P (.bl false) st) : (isiD [x, .tup [.ty T, .ty T']] st).holds E P := go_isi2 h hT (by rw [hb]; exact q)
theorem go_listOf {x : D} {st : Store} {PS : Slot → Store → Prop} {ds : List D} (h : x = .lst ds ∨ x = .tup ds) (q : PS (.ol ds) st) : (listOf [x] st).holds E PS := by
  rcases h with rfl | rfl <;> exact q
theorem go_gSubO {i : Nat} {fi : En → Store → Res D} {d : D} {env : En} {st : Store} {ds : List D} {nx br ct : NX} {rt : RT} (h : env[i]? = some (.ol ds)) (q : (fi env st).holds (atE Ee env) fun k st => ∃ n j, k = .int n ∧ ixN ds.length n = some j ∧ nx (env.set i (.ol (ds.set j d))) st) : (gSubO i fi d env st).runs Ee nx rt br ct := by
  unfold gSubO
  rw [h]
  refine go_go (q.imp fun k st hh => ?_)
  obtain ⟨n, j, rfl, e, hn⟩ := hh
  simp only [e]
  exact hn
theorem ix_in {n : Nat} {i : Int} (h0 : 0 ≤ i) (h1 : i < n) : ixN n i = some i.toNat := by
  unfold ixN
  rw [if_pos h0, if_pos h1]
theorem cut_len {α : Type} (xs : List α) (lo hi : Option Int) : (cutD xs lo hi).length ≤ xs.length := (cut_sub xs lo hi).length_le
section
variable {xs : List D} {st : Store} {P : D → Store → Prop} {lo hi lo' hi' : Option Int}
theorem go_slT {Q : D → Prop} (q : Q (.tup (cutD xs lo hi))) : ∃ d, slF (.tup xs) lo hi = some d ∧ Q d := ⟨_, rfl, q⟩
theorem go_slL {Q : D → Prop} (q : Q (.lst (cutD xs lo hi))) : ∃ d, slF (.lst xs) lo hi = some d ∧ Q d := ⟨_, rfl, q⟩
theorem go_addCT (h : xs.length ≤ 50000) (q : P (.tup (cutD xs lo hi ++ cutD xs lo' hi')) st) : (addD (.tup (cutD xs lo hi)) (.tup (cutD xs lo' hi')) st).holds E P :=
  go_addT (by have := cut_len xs lo hi; have := cut_len xs lo' hi'; omega) q
theorem go_addCL (h : xs.length ≤ 50000) (q : P (.lst (cutD xs lo hi ++ cutD xs lo' hi')) st) : (addD (.lst (cutD xs lo hi)) (.lst (cutD xs lo' hi')) st).holds E P :=
  go_addL (by have := cut_len xs lo hi; have := cut_len xs lo' hi'; omega) q
theorem Gds.cut {N n w : Nat} (h : Gds N n w xs) : Gds N n w (cutD xs lo hi) := Gds.sub (cut_sub xs lo hi) h
end
theorem at_mem' {ds : List D} {i : Int} (h0 : 0 ≤ i) (h1 : i < ds.length) : ∃ d, atI ds i = some d ∧ ds[i.toNat]? = some d := by
  have hi : i.toNat < ds.length := by omega
  refine ⟨ds[i.toNat], ?_, List.getElem?_eq_getElem hi⟩
  unfold atI
  rw [ix_in h0 h1]
  show ds[i.toNat]? = _
  rw [List.getElem?_eq_getElem hi]
section
variable {F : List D → Store → Res D} {st : Store} {P : D → Store → Prop} {a b c d e f : D}
theorem go_fn0 (q : (F [] st).holds E P) : (fnN 0 F [] st).holds E P := go_fnN rfl q
theorem go_fn1 (q : (F [a] st).holds E P) : (fnN 1 F [a] st).holds E P := go_fnN rfl q
theorem go_fn2 (q : (F [a, b] st).holds E P) : (fnN 2 F [a, b] st).holds E P := go_fnN rfl q
theorem go_fn3 (q : (F [a, b, c] st).holds E P) : (fnN 3 F [a, b, c] st).holds E P := go_fnN rfl q
theorem go_fn4 (q : (F [a, b, c, d] st).holds E P) : (fnN 4 F [a, b, c, d] st).holds E P := go_fnN rfl q
theorem go_fn5 (q : (F [a, b, c, d, e] st).holds E P) : (fnN 5 F [a, b, c, d, e] st).holds E P := go_fnN rfl q
theorem go_fn6 (q : (F [a, b, c, d, e, f] st).holds E P) : (fnN 6 F [a, b, c, d, e, f] st).holds E P := go_fnN rfl q
end
theorem go_appN {nx br ct : NX} {rt : RT} {env : En} {st : Store} {fe : En → Store → Res D} {i : Nat} {ds : List D} (h : env[i]? = some (.ol ds)) (hn : ds.length < 1000) (q : (fe env st).holds (atE Ee env) fun d st => nx (env.set i (.ol (ds ++ [d]))) st) : (sApp i fe env st).runs Ee nx rt br ct :=
  go_app h (q.imp fun d st h => ⟨Nat.lt_of_lt_of_le hn line1000, h⟩)
end EV

set_option Elab.async false
set_option linter.all false
set_option autoImplicit false
set_option maxRecDepth 100000
set_option maxHeartbeats 400000
/-! more rules: a dict of the module, a def held by a name, a starred target, in, ranges as lists, tuples repeated -/
namespace EV
open PySem PySem.Spec PyProof.Rows L2

/-! ### the module's dict of defs -/
def EntryIs (K : PySem.W.Frag) (mg : Str → Option Value) (e : DictEntry) (p : Str × Str) : Prop :=
  (∃ t, e.key = .str p.1 t) ∧ ∃ f, e.val = .ref f ∧ mg p.2 = some (.ref f) ∧ PySem.W.keepIn K (.ref f) = true
def EntriesAre (K : PySem.W.Frag) (mg : Str → Option Value) : List DictEntry → List (Str × Str) → Prop
  | [], [] => True
  | e :: es, p :: ps => EntryIs K mg e p ∧ EntriesAre K mg es ps
  | _, _ => False
structure DictAt (K : PySem.W.Frag) (w : World) (mg : Str → Option Value) (x : Str) (kvs : List (Str × Str)) : Prop where
  ex : ∃ d es n, mg x = some (.ref d) ∧ L2.KDict K w d es n ∧ EntriesAre K mg es.toList kvs
def lkS (kvs : List (Str × Str)) (z : Str) : Option Str := (kvs.find? fun p => p.1 == z).map (·.2)
theorem find_entries {K : PySem.W.Frag} {mg : Str → Option Value} {z : Str} : ∀ {es : List DictEntry} {kvs : List (Str × Str)}, EntriesAre K mg es kvs →
    match lkS kvs z with
    | some f => ∃ a, ((es.find? fun e => Value.isStrOf z e.key).map (·.val)) = some (.ref a) ∧ mg f = some (.ref a) ∧ PySem.W.keepIn K (.ref a) = true
    | none => ((es.find? fun e => Value.isStrOf z e.key).map (·.val)) = none
  | [], [], _ => rfl
  | [], _ :: _, h => h.elim
  | _ :: _, [], h => h.elim
  | e :: es, p :: ps, ⟨⟨⟨t, hk⟩, f, hv, hm, hkp⟩, h⟩ => by
    have ih := find_entries (z := z) h
    unfold lkS at ih ⊢
    have hb : Value.isStrOf z e.key = (p.1 == z) := by rw [hk]; rfl
    simp only [List.find?_cons, hb]
    cases hz : (p.1 == z) with
    | true => exact ⟨f, by show some e.val = _; rw [hv], hm, hkp⟩
    | false => exact ih
def kdIx (kvs : List (Str × Str)) : D → Store → Res D := fun y st => match y with
  | .str z => match lkS kvs z with
    | some f => .ok (.fn f) st
    | none => .stuck
  | _ => .stuck
def kdIn (kvs : List (Str × Str)) : D → Store → Res D := fun y st => match y with
  | .str z => .ok (.bl (lkS kvs z).isSome) st
  | _ => .stuck
section
variable {X : Cx} {W : Wi} {x : Str} {p pos : Pos} {a b e : Expr} {es : List Expr} {kvs : List (Str × Str)} {fa fb : En → Store → Res D} {fl : En → Store → Res (List D)}
theorem find_arr {es : Array DictEntry} {z : Str} : PySem.findBy Value.isStrOf es z = ((es.toList.find? fun e => Value.isStrOf z e.key).map (·.val)) := by
  unfold PySem.findBy
  rw [← Array.find?_toList]
theorem e_kdix (h : DictAt X.K X.w X.mg x kvs) (hg : Gl X x) (hb : EE X W b fb) (hs : L2.PlainIx b) (hdb : (x == ("__debug__" : Str)) = false := by decide) : EE X W (.Subscript (.Name x p) b pos) (v1 (kdIx kvs) fb) := by
  obtain ⟨d, es, n, hm, D, hE⟩ := h.ex
  refine ⟨fun pins s σ H Q I hq => Subscript_ (ld_glob I hg hm ?_ hdb)⟩
  obtain ⟨g, env, st, os, he, ho, hS, hq⟩ := hq
  refine thn (hb.run pins s σ H _ I ⟨g, env, st, os, he, ho, hS, Post.bind hq⟩) fun u s1 ⟨vx, H1, I1, r1, q1⟩ => ?_
  obtain ⟨g1, y, st1, s1', ry, S1, h1⟩ := q1
  unfold kdIx at h1
  split at h1
  · next z =>
    cases ry
    obtain ⟨t, rfl⟩ := r1
    have hf := find_entries (z := z) hE
    split at h1
    · next f hl =>
      rw [hl] at hf
      obtain ⟨c, q1, q2, q3⟩ := hf
      have hmp := PySem.W.mapOf_K (prog := X.prog) (w := X.w) I1.kIn D.at_ D.lit
      exact tail_any hmp.typeIs slot_dict_getitem.lookup (wpAny_getItem_of (strKind_is X.prog X.w z t) hmp (find_arr.trans q1) ⟨.ref c, H1, I1.tok _, rfl, h1.here (.fn q2 q3) S1⟩) (hs _ _)
    · exact h1.elim
  · exact h1.elim
theorem e_kdin (h : DictAt X.K X.w X.mg x kvs) (hg : Gl X x) (ha : EE X W a fa) (hdb : (x == ("__debug__" : Str)) = false := by decide) (hmk : behindInMarks .In (.Name x p) = false := by rfl) : EE X W (.Compare a [.In] [.Name x p] pos) (v1 (kdIn kvs) fa) := by
  obtain ⟨d, es, n, hm, D, hE⟩ := h.ex
  refine ⟨fun pins s σ H Q I hq => wpAny_Compare1 ?_ hmk⟩
  obtain ⟨g, env, st, os, he, ho, hS, hq⟩ := hq
  refine thn (ha.run pins s σ H _ I ⟨g, env, st, os, he, ho, hS, Post.bind hq⟩) fun u s1 ⟨vx, H1, I1, r1, q1⟩ => ld_glob I1 hg hm ?_ hdb
  obtain ⟨g1, y, st1, s1', ry, S1, h1⟩ := q1
  unfold kdIn at h1
  split at h1
  · next z =>
    cases ry
    obtain ⟨t, rfl⟩ := r1
    have hf := find_entries (z := z) hE
    have hmp := PySem.W.mapOf_K (prog := X.prog) (w := X.w) I1.kIn D.at_ D.lit
    refine wpAny_in_of (strKind_is X.prog X.w z t) D.low hmp ?_
    have e0 : (PySem.findBy Value.isStrOf es z).isSome = (lkS kvs z).isSome := by
      rw [find_arr]
      cases hl : lkS kvs z with
      | none => rw [hl] at hf; rw [show _ = _ from hf]; rfl
      | some f =>
        rw [hl] at hf
        obtain ⟨c, q1, _⟩ := hf
        rw [q1]
        rfl
    rw [e0]
    exact ⟨.bl _, H1, I1.tok _, rfl, h1.here (.bl _) S1⟩
  · exact h1.elim
/-! ### a def that a name holds -/
abbrev DefTab := List (Str × List Str × (List D → Store → Res D))
def tabF (tb : DefTab) (y : Str) : Option (List Str × (List D → Store → Res D)) := (tb.find? fun p => p.1 == y).map (·.2)
def vCallL (i : Nat) (tb : DefTab) (fa : En → Store → Res (List D)) : En → Store → Res D := fun env st => match env[i]? with
  | some (.vl (.fn y)) => match tabF tb y with
    | some (ps, F) => (fa env st).bind (fnN ps.length F)
    | none => .stuck
  | _ => .stuck
def TabOk (P : Program) (w : World) (K : PySem.W.Frag) (mg : Str → Option Value) (base : Heap) (k : Nat) : DefTab → Prop
  | [] => True
  | p :: tb => DefOk P w K mg base p.1 k p.2.1 p.2.2 ∧ TabOk P w K mg base k tb
theorem TabOk.at_ {P : Program} {w : World} {K : PySem.W.Frag} {mg : Str → Option Value} {base : Heap} {k : Nat} {y : Str} {ps : List Str} {F : List D → Store → Res D} : ∀ {tb : DefTab}, TabOk P w K mg base k tb → tabF tb y = some (ps, F) → DefOk P w K mg base y k ps F
  | [], _, e => by cases e
  | p :: tb, ⟨h, t⟩, e => by
    unfold tabF at e
    rw [List.find?_cons] at e
    cases hz : (p.1 == y) with
    | true =>
      rw [hz] at e
      have e1 : p.2 = (ps, F) := Option.some.inj e
      have e2 : p.1 = y := by simpa using hz
      obtain ⟨x, ps', F'⟩ := p
      cases e1
      cases e2
      exact h
    | false =>
      rw [hz] at e
      exact TabOk.at_ t e
theorem e_callL (i : Nat) {tb : DefTab} {k : Nat} (hT : TabOk X.prog X.w X.K X.mg X.base k tb) (hr : Rm k X.A) (tk : Takes X (wOf X.K X.mg W)) (hN : X.N[i]? = some x) (hv : Vis X.env.scope x) (ha : AE X W (e :: es) fl)
    (hdb : (x == ("__debug__" : Str)) = false := by decide) (hcd : (x == ("__classdict__" : Str)) = false := by decide) (hse : starEach (e :: es) X.env = (false, eval e X.env) :: starEach es X.env := by rfl) (hpl : (backTo pos (starEach es X.env)).any (·.1) = false := by rfl) :
    EE X W (.Call (.Name x p) (e :: es) [] pos) (vCallL i tb fl) := by
  refine ⟨fun pins s σ H Q I h => ?_⟩
  obtain ⟨g, env, st, os, hv', ho, hS, h⟩ := h
  unfold vCallL at h
  split at h
  · next y hy =>
    split at h
    · next ps F hF =>
      obtain ⟨f, fd, hm, hk, hb, FG⟩ := hT.at_ hF
      obtain ⟨o, l, h1, h2, _⟩ := hv'.get hy
      cases h2 with
      | vl r =>
        cases r with
        | @fn _ a hm' hk' =>
          rw [hm] at hm'
          cases hm'
          refine wpAny_Call_Name_kw (thn ((pe_var (pos := p) hN hv hdb hcd).run pins s σ H (fun v H1 => v = .ref f ∧ H1 = H) I ⟨.ref f, h1, rfl, rfl⟩) fun u s1 ⟨v, H1, I1, r1, q1⟩ => ?_)
          obtain ⟨rfl, rfl⟩ := q1
          cases r1
          refine PySem.W.callWith_K (h₀ := X.base) I1.ok.mod.kin hk (thn (ha.run pos pins s1 σ _ _ I1 ⟨g, env, st, os, hv', ho, hS, Post.bind h⟩) fun us s2 ⟨vs, H2, I2, r, q⟩ => ⟨I2.kIn, ?_⟩) hse hpl
          obtain ⟨g1, ds, st1, s1', rd, S1, h1⟩ := q
          unfold fnN at h1
          split at h1
          · next hl =>
            have hb' := hb s2 us I2.kIn (by rw [List.append_nil, ← r.length, ← rd.length]; exact hl)
            rw [List.append_nil] at hb'
            refine wpAny_call (codeAny_mono (run_fnG FG hr tk hb' I2 r hl rd S1 h1) fun r s' hq => ?_)
            cases r with
            | error e => exact hq
            | ok fl =>
              cases fl with
              | ret u => exact hq
              | next => exact False.elim hq
              | brk => exact False.elim hq
              | cont => exact False.elim hq
          · exact h1.elim
    · exact h.elim
  · exact h.elim
end

/-! ### in -/
def inB (x : D) (ys : List D) : Option Bool := match x.pd, D.pds ys with
  | some a, some bs => if SeqAt.shaped a = true ∧ SeqAt.shaped (.list bs) = true then some (bs.any fun z => PyData.eqv z a) else none
  | _, _ => none
/-- in a dict, by its keys -/
def kindOf (st : Store) : D → List (DK × D) → Option Bool
  | .ref n, _ => match st[n]? with
    | some (.cell (.od t _)) => some t
    | _ => none
  | _, (k, _) :: _ => some k.isT
  | _, [] => none
def inKv (st : Store) (x y : D) (kvs : List (DK × D)) : Option Bool := match dkOf x, kindOf st y kvs with
  | some k, some t => if k.isT = t then some (lkD kvs k).isSome else none
  | _, _ => none
/-- in a list, frozen or of the store, in a tuple, in a dict -/
def inX (st : Store) (x y : D) : Option Bool := match dictOf st y with
  | some kvs => inKv st x y kvs
  | none => match y with
    | .lst ys => inB x ys
    | .ref n => match st[n]? with
      | some (.cell (.ol ys)) => inB x ys
      | _ => none
    | _ => none
def inD : D → D → Store → Res D := fun x y st => match inX st x y with
  | some b => .ok (.bl b) st
  | none => .stuck
def notinD : D → D → Store → Res D := fun x y st => match inX st x y with
  | some b => .ok (.bl (!b)) st
  | none => .stuck
section
variable {X : Cx}
theorem RepD.missK {g : G} {K : PySem.W.Frag} {mg : Str → Option Value} {x : Key} : ∀ {kvs : List (DK × D)} {zs : List (List Key × V)}, RepD K mg g kvs (.dT zs) → lkD kvs (.k x) = none
  | _, _, .nilT => rfl
  | _, _, .consT _ t => by unfold lkD; rw [if_neg (by intro h; cases h)]; exact RepD.missK t
theorem in_cases {K : PySem.W.Frag} {mg : Str → Option Value} {g : G} {st : Store} {H : Hp} (S : SOk K mg g st H) {x y : D} {vx vy : V} {b : Bool} (rx : Rep K mg g x vx) (ry : Rep K mg g y vy) (e : inX st x y = some b) :
    (∃ d ds, Dp K H vx d ∧ Dp K H vy (.list ds) ∧ SeqAt.shaped d = true ∧ SeqAt.shaped (.list ds) = true ∧ (ds.any fun z => PyData.eqv z d) = b) ∨ ∃ a kvs o k, vy = .ref a ∧ Rd H a o ∧ RepD K mg g kvs o ∧ dkOf x = some k ∧ HO.isD k.isT o ∧ (lkD kvs k).isSome = b := by
  have fin : ∀ {ys : List D} {vs : List V}, RepL K mg g ys vs → inB x ys = some b → ∃ d ds, Dp K H vx d ∧ DpAll K H vs ds ∧ SeqAt.shaped d = true ∧ SeqAt.shaped (.list ds) = true ∧ (ds.any fun z => PyData.eqv z d) = b := by
    intro ys vs rl e
    unfold inB at e
    split at e
    · next a bs h1 h2 =>
      split at e
      · next h =>
        cases e
        exact ⟨a, bs, rx.dp S h1, rl.dp S h2, h.1, h.2, rfl⟩
      · cases e
    · cases e
  unfold inX at e
  split at e
  · next kvs hkv =>
    unfold inKv at e
    split at e
    · next k t hk ht =>
      split at e
      · next hkt =>
        cases e
        cases y with
        | ref n =>
          have ht : (match st[n]? with | some (.cell (.od t _)) => some t | _ => none) = some k.isT := ht.trans (by rw [hkt])
          have hkv : (match st[n]? with | some (.cell (.od _ kvs)) => some kvs | _ => none) = some kvs := hkv
          split at ht
          · next t' kv2 hs =>
            cases ht
            obtain ⟨a, rfl, q1, q2⟩ := S.cellAt ry hs
            rw [hs] at hkv
            cases hkv
            cases q2 with
            | od h3 rd hd _ => exact .inr ⟨a, _, _, k, rfl, .inl h3, rd, hk, hd, rfl⟩
          · cases ht
        | dct kv2 =>
          have hkv : kv2 = kvs := Option.some.inj hkv
          subst hkv
          cases kv2 with
          | nil => cases ht
          | cons p r0 =>
            obtain ⟨k0, d0⟩ := p
            have ht : some k0.isT = some t := ht
            cases ht
            obtain ⟨a, o, rfl, h1, h2⟩ := S.dictAt (x := .dct ((k0, d0) :: r0)) (kvs := (k0, d0) :: r0) ry rfl
            refine .inr ⟨a, _, o, k, rfl, h1, h2, hk, ?_, rfl⟩
            rw [hkt]
            cases h2 with
            | consK _ _ => trivial
            | consT _ _ => trivial
        | _ => cases hkv
      · cases e
    · cases e
  · split at e
    · cases ry with
      | lst h rl =>
        obtain ⟨d, ds, h1, h2, h3, h4, h5⟩ := fin rl e
        exact .inl ⟨d, ds, h1, .lst (SqL.of (S.kp _ _ h)) h2, h3, h4, h5⟩
    · split at e
      · next n ys hs =>
        obtain ⟨a, rfl, q1, q2⟩ := S.cellAt ry hs
        cases q2 with
        | ol h3 rl =>
          obtain ⟨d, ds, h1, h2, h3', h4, h5⟩ := fin rl e
          exact .inl ⟨d, ds, h1, .lst (SqL.of h3) h2, h3', h4, h5⟩
      · cases e
    · cases e
/-- a dict asked by a key of its kind, or one that it can't have -/
theorem dget_any {g : G} {K : PySem.W.Frag} {mg : Str → Option Value} {st : Store} {H : Hp} (S : SOk K mg g st H) {x : D} {vx : V} {k : DK} {a : Addr} {kvs : List (DK × D)} {o : HO} (rx : Rep K mg g x vx) (hk : dkOf x = some k) (h1 : Rd H a o) (h2 : RepD K mg g kvs o) (ht : HO.isD k.isT o) :
    ∃ ov, DGet H a vx ov ∧ ov.isSome = (lkD kvs k).isSome := by
  have q := key_rep S rx hk
  cases k with
  | k z =>
    have q : vx = kV z := q
    subst q
    cases o with
    | dK zs =>
      obtain ⟨w1, w2⟩ := h2.getK (x := z)
      refine ⟨_, .inl ⟨zs, z, h1, rfl, rfl⟩, ?_⟩
      cases e : lkD kvs (.k z) with
      | none => rw [w2 e]; rfl
      | some d => obtain ⟨v, e2, _⟩ := w1 d e; rw [e2]; rfl
    | _ => exact (ht : False).elim
  | t zs =>
    obtain ⟨b, rfl, hb⟩ := q
    cases o with
    | dT ws =>
      obtain ⟨w1, w2⟩ := h2.getT (x := zs)
      refine ⟨_, .inr ⟨ws, zs, b, h1, rfl, hb, rfl⟩, ?_⟩
      cases e : lkD kvs (.t zs) with
      | none => rw [w2 e]; rfl
      | some d => obtain ⟨v, e2, _⟩ := w1 d e; rw [e2]; rfl
    | _ => exact (ht : False).elim
theorem o_in {k : Nat} (hr : Rm k X.A) : Op2 X (compareOp .In) inD := fun W pins s σ H g st x y vx vy u w Q I S rx ry ru rw q => by
  unfold inD at q
  split at q
  · next b e =>
    rcases in_cases S rx ry e with ⟨d, ds, h1, h2, h3, h4, h5⟩ | ⟨a, kvs, o, k, rfl, h1, h2, h3, ht, h4⟩
    · exact op_inD (by have := hr.room.un; omega) pins s σ H _ _ u w Q I ru rw ⟨d, ds, h1, h2, h3, h4, by rw [h5]; exact q.here (.bl _) S⟩
    · obtain ⟨ov, w1, w2⟩ := dget_any S rx h3 h1 h2 ht
      cases rw
      refine d_in (by have := hr.room.un; omega) I w1 ru fun s' I' => ⟨.bl b, H, I', ?_, q.here (.bl _) S⟩
      rw [w2, h4]; rfl
  · exact q.elim
theorem o_notin {k : Nat} (hr : Rm k X.A) : Op2 X (compareOp .NotIn) notinD := fun W pins s σ H g st x y vx vy u w Q I S rx ry ru rw q => by
  unfold notinD at q
  split at q
  · next b e =>
    rcases in_cases S rx ry e with ⟨d, ds, h1, h2, h3, h4, h5⟩ | ⟨a, kvs, o, k, rfl, h1, h2, h3, ht, h4⟩
    · exact op_notInD (by have := hr.room.un; omega) pins s σ H _ _ u w Q I ru rw ⟨d, ds, h1, h2, h3, h4, by rw [h5]; exact q.here (.bl _) S⟩
    · obtain ⟨ov, w1, w2⟩ := dget_any S rx h3 h1 h2 ht
      cases rw
      refine d_notIn (by have := hr.room.un; omega) I w1 ru fun s' I' => ⟨.bl (!b), H, I', ?_, q.here (.bl _) S⟩
      rw [w2, h4]; rfl
  · exact q.elim
end

/-! ### a tuple repeated -/
def repD : D → D → Store → Res D := fun x y st => match x, y with
  | .tup xs, .int k => if xs ≠ [] ∧ 2 ≤ k ∧ k ≤ 1000 ∧ xs.length ≤ 1000 then .ok (.tup (List.replicate k.toNat xs).flatten) st else .stuck
  | _, _ => .stuck
theorem RepL.rep {K : PySem.W.Frag} {mg : Str → Option Value} {g : G} {ds : List D} {vs : List V} (r : RepL K mg g ds vs) : ∀ n : Nat, RepL K mg g (List.replicate n ds).flatten (List.replicate n vs).flatten
  | 0 => .nil
  | n + 1 => by
    rw [List.replicate_succ, List.replicate_succ, List.flatten_cons, List.flatten_cons]
    exact r.append (RepL.rep r n)
theorem o_rep {X : Cx} : Op2 X (binaryOp .Mult) repD := fun W pins s σ H g st x y vx vy u w Q I S rx ry ru rw q => by
  unfold repD at q
  split at q
  · next xs k =>
    split at q
    · next h =>
      cases rx with
      | @tup a vs _ hx rl =>
        cases ry
        refine op_repT pins s σ H _ _ u w Q I ru rw ⟨a, k, vs, rfl, rfl, S.sqT hx, ?_, h.2.1, h.2.2.1, by rw [← rl.length]; exact h.2.2.2, fun p hp => q.newTup S (rl.rep _) hp⟩
        rintro rfl
        cases rl
        exact h.1 rfl
    · exact q.elim
  · exact q.elim

/-! ### list(range(..)) -/
def lrng2 : D → D → Store → Res Slot := fun x y st => match x, y with
  | .int a, .int b => if -(2 ^ 62) ≤ a ∧ a < 2 ^ 62 ∧ -(2 ^ 62) ≤ b ∧ b < 2 ^ 62 ∧ (b - a).toNat ≤ 2 ^ 24 then .ok (.ol (rngD a (b - a).toNat)) st else .stuck
  | _, _ => .stuck
def lrng1 : D → Store → Res Slot := fun y st => lrng2 (.int 0) y st
theorem rep_rng {K : PySem.W.Frag} {mg : Str → Option Value} {g : G} (a b : Int) : RepL K mg g (rngD a (b - a).toNat) (rgV a b) := by
  unfold rngD rgV
  generalize List.range (b - a).toNat = l
  induction l with
  | nil => exact .nil
  | cons i l ih => exact .cons (.int _) ih
section
variable {X : Cx} {W : Wi} {a b : Expr} {fa fb : En → Store → Res D} {p p2 pos pos2 : Pos}
theorem s_listrange2 (hc : X.calm = true) (hg : Gl X "list") (hm : X.mg "list" = none) (hg2 : Gl X "range") (hm2 : X.mg "range" = none) (ha : EE X W a fa) (hb : EE X W b fb)
    (na2 : starEach [a, b] X.env = (false, eval a X.env) :: starEach [b] X.env := by rfl) (na3 : starEach [b] X.env = (false, eval b X.env) :: starEach [] X.env := by rfl) (hpl : (backTo pos2 (starEach [b] X.env)).any (·.1) = false := by rfl)
    (na : starEach [.Call (.Name "range" p2) [a, b] [] pos2] X.env = (false, eval (.Call (.Name "range" p2) [a, b] [] pos2) X.env) :: starEach [] X.env := by rfl) :
    SE X W (.Call (.Name "list" p) [.Call (.Name "range" p2) [a, b] [] pos2] [] pos) (v2 lrng2 fa fb) := by
  refine ⟨fun pins s σ H Q I hq => (pe_listRg hc hg hm (prg_2 hg2 hm2 ha hb na2 na3 hpl) na).run pins s σ H Q I ?_⟩
  obtain ⟨g, env, st, os, he, ho, hS, h⟩ := hq
  refine ⟨g, env, st, os, he, ho, hS, (Post.bindS h).imp fun x H1 q => ?_⟩
  obtain ⟨g1, dx, st1, s1, rx, S1, h1⟩ := q
  refine ⟨g1, env, st1, os, he.step' ho s1, ho.step s1, S1, (Post.bindS h1).imp fun y H2 q => ?_⟩
  obtain ⟨g2, dy, st2, s2, ry, S2, h2⟩ := q
  unfold lrng2 at h2
  split at h2
  · next i j =>
    split at h2
    · next hz =>
      cases ry
      have rx' := rx.ext s2.ext
      cases rx'
      exact ⟨i, j, rfl, rfl, hz, fun p hp => h2.newLst S2 (rep_rng i j) hp⟩
    · exact h2.elim
  · exact h2.elim
theorem s_listrange1 (hc : X.calm = true) (hg : Gl X "list") (hm : X.mg "list" = none) (hg2 : Gl X "range") (hm2 : X.mg "range" = none) (ha : EE X W a fa)
    (na3 : starEach [a] X.env = (false, eval a X.env) :: starEach [] X.env := by rfl)
    (na : starEach [.Call (.Name "range" p2) [a] [] pos2] X.env = (false, eval (.Call (.Name "range" p2) [a] [] pos2) X.env) :: starEach [] X.env := by rfl) :
    SE X W (.Call (.Name "list" p) [.Call (.Name "range" p2) [a] [] pos2] [] pos) (v1 lrng1 fa) := by
  refine ⟨fun pins s σ H Q I hq => (pe_listRg hc hg hm (prg_1 hg2 hm2 ha na3) na).run pins s σ H Q I ?_⟩
  obtain ⟨g, env, st, os, he, ho, hS, h⟩ := hq
  refine ⟨g, env, st, os, he, ho, hS, (Post.bindS h).imp fun x H1 q => ?_⟩
  obtain ⟨g1, dx, st1, s1, rx, S1, h1⟩ := q
  unfold lrng1 lrng2 at h1
  split at h1
  · next i j e1 =>
    cases e1
    split at h1
    · next hz =>
      cases rx
      exact ⟨j, rfl, hz, fun p hp => h1.newLst S1 (rep_rng 0 j) hp⟩
    · exact h1.elim
  · exact h1.elim
end

/-! ### a starred target -/
theorem star_tup {X : Cx} {pins : List (Addr × Obj)} {σ : L2.St} {H : Hp} {s : Shared} {a : Addr} {xs : List V} {n i : Nat} (hc : X.calm = true) (I : L2.Inv X pins σ H s) (hq : SqT X.K H a xs) (hi : i < n) (hn : n ≤ xs.length + 1) (hz : xs.length ≤ 16384) {Q : List Value → Shared → Prop}
    (h : ∀ p s' us, H p = none → L2.Inv X pins σ (upd H p (.lst ((xs.drop i).take (xs.length + 1 - n)))) s' → Vals (xs.take i ++ [.ref p] ++ (xs.drop i).drop (xs.length + 1 - n)) us → Q us s') :
    wpAny (model X.prog X.w) X.A (unpackItems (.ref a) n (some i)) Q X.xe s := by
  obtain ⟨its, rv, ht, hz2⟩ := I.tuple hq
  have hl : its.length = xs.length := rv.length.symm
  have htI : IsTup s.heap a its.toArray := ht
  have hlt : a ≠ s.heap.objs.size := by obtain ⟨o, ho, _⟩ := htI; exact Nat.ne_of_lt (Heap.lt_size ho)
  unfold unpackItems
  refine wpAny_bind ?_
  unfold notIterableAtAll
  refine wpAny_bind (wpAny_specialOf htI.typeIs slot_tuple_iter.lookup ?_)
  refine wpAny_pure ?_
  simp only [Bool.false_eq_true, if_false]
  refine wpAny_bind (wpAny_holding (iter_tuple htI ?_))
  refine wpAny_bind (wpAny_holding (draw_tuple hlt i 0 _ _ ⟨_, Heap.get?_push_size _ rfl, rfl, rfl⟩ (htI.push _) (by rw [List.size_toArray]; omega) fun h₁ hit₁ hs₁ => ?_))
  have hl₁ : IsTup h₁ a its.toArray := (htI.push _).extBut hs₁.extBut hlt
  rw [Nat.zero_add] at hit₁
  have hit₁' := hit₁
  obtain ⟨oi, hoi, _⟩ := hit₁'
  have hl₁' := hl₁
  obtain ⟨ol, hol, _⟩ := hl₁'
  rw [List.drop_zero]
  have e0 : its.toArray.toList = its := rfl
  have hsz : its.toArray.size = its.length := List.size_toArray
  rw [e0]
  have hfl : (its.take i).length = i := by rw [List.length_take]; omega
  rw [if_neg (show ¬ ((its.take i).length < i) by rw [hfl]; omega)]
  refine wpAny_bind (wpAny_holding (PySem.W.kun_collect (s := { s with heap := h₁ }) (T := "tuple_iterator") (items := its.toArray) (.inr (.inr (.inr rfl))) (PySem.Walks.tuple (A := X.A.in1) (I.ok.hd hc) s.heap.objs.size a hlt its.toArray) (fun j u st => st.1.typeIs) (k := i) (by rw [hsz]; omega) ⟨hit₁, hl₁⟩ (Heap.lt_size hoi) (Heap.lt_size hol) (fun h₂ tk hk => ?_) (by rw [sizeLine_eq, hsz]; omega)))
  rw [e0]
  have hrl : (its.drop i).length = its.length - i := by rw [List.length_drop]
  have hmid : (its.drop i).length - (n - 1 - i) = xs.length + 1 - n := by rw [hrl]; omega
  show wpAny _ _ (if (its.drop i).length < n - 1 - i then _ else _) _ _ _
  rw [if_neg (by rw [hrl]; omega)]
  show wpAny _ _ (newList ((its.drop i).take ((its.drop i).length - (n - 1 - i))) >>= fun d => pure (its.take i ++ [d] ++ (its.drop i).drop ((its.drop i).length - (n - 1 - i)))) _ _ _
  rw [hmid]
  have I1 : L2.Inv X pins σ H { s with heap := h₂, toks := tk } := I.kept fun b o e => hk b o (Nat.ne_of_lt (Heap.lt_size e)) (hs₁.extBut b o (Nat.ne_of_lt (Heap.lt_size e)) (Heap.get?_push_of_some _ e))
  refine wpAny_bind (wpAny_newList (s := { s with heap := h₂, toks := tk }) ?_ (by rw [List.length_take, hrl, sizeLine_eq]; omega))
  refine wpAny_pure (h h₂.objs.size _ _ (I1.hok.fresh (Nat.le_refl _)) (I1.laid (t' := tk) (fun b u e => Heap.get?_push_of_some _ e) (Nat.le_refl _) ?_) ?_)
  · exact ⟨by rw [List.length_take, List.length_drop, sizeLine_eq]; omega, _, _, (rv.drop i).take _, Heap.get?_push_size _ rfl⟩
  · exact ((rv.take i).append (.cons (show RelV (V.ref h₂.objs.size) (Value.ref h₂.objs.size) from rfl) .nil)).append ((rv.drop i).drop _)
def gTupS (K : PySem.W.Frag) (n i : Nat) (t : TGs) : TG := fun v σ H Q => ∃ a xs, v = .ref a ∧ SqT K H a xs ∧ i < n ∧ n ≤ xs.length + 1 ∧ xs.length ≤ 16384 ∧
  ∀ p, H p = none → t (xs.take i ++ [.ref p] ++ (xs.drop i).drop (xs.length + 1 - n)) σ (upd H p (.lst ((xs.drop i).take (xs.length + 1 - n)))) Q
section
variable {X : Cx} {W : Wi} {pos : Pos}
theorem pg_tupS {es : List Expr} {k : Nat} {t : TGs} {n i : Nat} (hc : X.calm = true) (h : PGs X es t) (hn : (assignEach es X.env).length = n) (hst : (assignEach es X.env).findIdx? (·.1) = some i) : PG X (.Tuple es k pos) (gTupS X.K n i t) := by
  refine ⟨fun pins s σ H v u Q I r hw => ?_⟩
  obtain ⟨a, xs, e1, hq, hi, hl, hz, hw⟩ := hw
  subst e1
  cases r
  rw [assign_Tuple]
  refine wpAny_bind (wpAny_standAt ?_)
  unfold unpack
  rw [hn, hst]
  refine wpAny_bind (wpAny_holding (star_tup hc I hq hi hl hz fun p s' us hp I' rv => ?_))
  exact h.run pins s' σ _ _ us Q I' rv (hw p hp)
theorem pats_star {e : Expr} {es : List Expr} {sp : Pos} {p : Pat} {ps : List Pat} (h1 : PG X e (Pat.tg X.K p)) (h2 : PGs X es (Pat.tgs X.K ps))
    (hs : (assignEach (.Starred e sp :: es) X.env).map (·.2) = assign e X.env :: (assignEach es X.env).map (·.2) := by rfl) : PGs X (.Starred e sp :: es) (Pat.tgs X.K (p :: ps)) := by
  unfold Pat.tgs
  refine ⟨fun pins s σ H vs us Q I r h => ?_⟩
  obtain ⟨v, vr, e1, h⟩ := h
  subst e1
  cases r with
  | cons r rr =>
    rw [hs]
    refine assignInOrder_cons (thn (h1.run pins s σ H _ _ _ I r h) fun _ s1 ⟨σ1, H1, I1, q1⟩ => ?_)
    exact h2.run pins s1 σ1 H1 _ _ Q I1 rr q1
/-- a, *b, c = a tuple: the starred name takes a list that is not changed later -/
def gStar (i : Nat) (ps : List Pat) : D → En → Store → ResS := fun d env st => match d with
  | .tup ds => if i < ps.length ∧ ps.length ≤ ds.length + 1 ∧ ds.length ≤ 16384 then
      (match Pat.binds ps (ds.take i ++ [.lst ((ds.drop i).take (ds.length + 1 - ps.length))] ++ (ds.drop i).drop (ds.length + 1 - ps.length)) with
      | some bs => .nx (bindE env bs) st
      | none => .stuck) else .stuck
  | _ => .stuck
theorem g_star {es : List Expr} {j i : Nat} {ps : List Pat} (hc : X.calm = true) (h : PGs X es (Pat.tgs X.K ps)) (hn : (assignEach es X.env).length = ps.length := by rfl) (hst : (assignEach es X.env).findIdx? (·.1) = some i := by rfl) : GE X W (.Tuple es j pos) (gStar i ps) := by
  refine ⟨fun pins s σ H v u Q I r hw => ?_⟩
  obtain ⟨g, env, st, os, hv, ho, hS, d, rd, hw⟩ := hw
  unfold gStar at hw
  split at hw
  · next ds =>
    split at hw
    · next hb =>
      split at hw
      · next bs hbs =>
        cases rd with
        | @tup a vs _ hx rl =>
          have hl := rl.length
          refine (pg_tupS hc h hn hst).run pins s σ H _ u _ I r ⟨a, vs, rfl, hS.sqT hx, hb.1, by rw [← hl]; exact hb.2.1, by rw [← hl]; exact hb.2.2, fun p hp => ?_⟩
          obtain ⟨S', s'⟩ := hS.newF (o := .lst ((vs.drop i).take (vs.length + 1 - ps.length))) hp
          have rl' : RepL X.K X.mg (g.freeze p (.lst ((vs.drop i).take (vs.length + 1 - ps.length)))) (ds.take i ++ [.lst ((ds.drop i).take (ds.length + 1 - ps.length))] ++ (ds.drop i).drop (ds.length + 1 - ps.length)) (vs.take i ++ [.ref p] ++ (vs.drop i).drop (vs.length + 1 - ps.length)) := by
            rw [hl]
            exact (((rl.take i).ext s'.ext).append (.cons (rep_lstF (hS.kpn hp) ((rl.drop i).take _)) .nil)).append (((rl.drop i).drop _).ext s'.ext)
          obtain ⟨ws, h1, h2⟩ := Pat.readss S' ps _ _ bs hbs rl'
          refine h2 σ Q ?_
          obtain ⟨os', q1, q2, q3⟩ := EnvOk.binds h1 (hv.step' ho s') (ho.step s')
          exact hw _ _ _ os' ((s'.frame os).sub q2) q1 q3 S'
      · exact (hw : False).elim
    · exact (hw : False).elim
  · exact (hw : False).elim
end
/-! ### comprehensions of one clause, said for the printer -/
section
variable {X : Cx} {W : Wi}
theorem s_lc0 {elt tg iter : Expr} {scope sc0 : Scope} {N0 : List Str} {own : List (Str × Nat)} {spos : Pos} {p : Pat} {fi : En → Store → Res (List D)} {te : En → Store → Res D} (hc : X.calm = true) (hN : X.N.Nodup) (hi : IE X W tg iter fi) (ok : blkC N0 sc0 scope own = true) (hN0 : X.N = N0) (hs0 : X.env.scope = sc0) (hp : ∀ i ∈ p.slots, i ∈ own.map (·.2))
    (hg : ∀ (s : Shared) (H : Hp) (C : Addr) (cl : List (Str × Addr)) (fp : List Addr), PG (X.blk s H scope (compEnvC scope cl C X.env) fp) tg (Pat.tg X.K p))
    (he : ∀ (s : Shared) (H : Hp) (C : Addr) (cl : List (Str × Addr)) (fp : List Addr), EE (X.blk s H scope (compEnvC scope cl C X.env) fp) W0 elt te) (hs : ∀ x, foldedSetIterable iter X.env x = pure x := by intro _; rfl) : SE X W (.ListComp elt [⟨tg, iter, [], 0⟩] scope spos) (vLc fi p (own.map (·.2)) ttYes te) := s_lc hc hN hi (blkOk_by (by rw [hN0, hs0]; exact ok)) hp hg ts_nil he hs
theorem st_setLc0 (i : Nat) {y : Str} {py : Pos} {elt tg iter : Expr} {scope sc0 : Scope} {N0 : List Str} {own : List (Str × Nat)} {pos spos : Pos} {p : Pat} {fi : En → Store → Res (List D)} {te : En → Store → Res D} (hc : X.calm = true) (hN : X.N.Nodup) (hy : X.N[i]? = some y) (hyl : X.env.scope.names.lookup y = some .local)
    (hsw : swapsWith (.ListComp elt [⟨tg, iter, [], 0⟩] scope pos) (some (.Name y py)) spos.line X.env = pure true) (hi : IE X W tg iter fi) (ok : blkC N0 sc0 scope own = true) (hN0 : X.N = N0) (hs0 : X.env.scope = sc0) (hp : ∀ i ∈ p.slots, i ∈ own.map (·.2))
    (hg : ∀ (s : Shared) (H : Hp) (C : Addr) (cl : List (Str × Addr)) (fp : List Addr), PG (X.blk s H scope (compEnvC scope cl C X.env) fp) tg (Pat.tg X.K p))
    (he : ∀ (s : Shared) (H : Hp) (C : Addr) (cl : List (Str × Addr)) (fp : List Addr), EE (X.blk s H scope (compEnvC scope cl C X.env) fp) W0 elt te) (hs : ∀ x, foldedSetIterable iter X.env x = pure x := by intro _; rfl) : ST X W (.Assign [.Name y py] (.ListComp elt [⟨tg, iter, [], 0⟩] scope pos) spos) (sSetS i (vLc fi p (own.map (·.2)) ttYes te)) := st_setLc i hc hN hy hyl hsw hi (blkOk_by (by rw [hN0, hs0]; exact ok)) hp hg ts_nil he hs
theorem st_setLcF0 (i : Nat) {y : Str} {py : Pos} {elt tg iter : Expr} {scope sc0 : Scope} {N0 : List Str} {own : List (Str × Nat)} {pos spos : Pos} {p : Pat} {fi : En → Store → Res (List D)} {te : En → Store → Res D} (hc : X.calm = true) (hN : X.N.Nodup) (hy : X.N[i]? = some y) (hyl : X.env.scope.names.lookup y = some .local)
    (hsw : swapsWith (.ListComp elt [⟨tg, iter, [], 0⟩] scope pos) (some (.Name y py)) spos.line X.env = pure true) (hi : IE X W tg iter fi) (ok : blkC N0 sc0 scope own = true) (hN0 : X.N = N0) (hs0 : X.env.scope = sc0) (hp : ∀ i ∈ p.slots, i ∈ own.map (·.2))
    (hg : ∀ (s : Shared) (H : Hp) (C : Addr) (cl : List (Str × Addr)) (fp : List Addr), PG (X.blk s H scope (compEnvC scope cl C X.env) fp) tg (Pat.tg X.K p))
    (he : ∀ (s : Shared) (H : Hp) (C : Addr) (cl : List (Str × Addr)) (fp : List Addr), EE (X.blk s H scope (compEnvC scope cl C X.env) fp) W0 elt te) (hs : ∀ x, foldedSetIterable iter X.env x = pure x := by intro _; rfl) : ST X W (.Assign [.Name y py] (.ListComp elt [⟨tg, iter, [], 0⟩] scope pos) spos) (sSet i (vFrz (vLc fi p (own.map (·.2)) ttYes te))) := st_setLcF i hc hN hy hyl hsw hi (blkOk_by (by rw [hN0, hs0]; exact ok)) hp hg ts_nil he hs
theorem s_lc1 {elt tg iter c : Expr} {scope sc0 : Scope} {N0 : List Str} {own : List (Str × Nat)} {spos : Pos} {p : Pat} {fi : En → Store → Res (List D)} {tt : En → Store → Res Bool} {te : En → Store → Res D} (hc : X.calm = true) (hN : X.N.Nodup) (hi : IE X W tg iter fi) (ok : blkC N0 sc0 scope own = true) (hN0 : X.N = N0) (hs0 : X.env.scope = sc0) (hp : ∀ i ∈ p.slots, i ∈ own.map (·.2))
    (hg : ∀ (s : Shared) (H : Hp) (C : Addr) (cl : List (Str × Addr)) (fp : List Addr), PG (X.blk s H scope (compEnvC scope cl C X.env) fp) tg (Pat.tg X.K p))
    (ht : ∀ (s : Shared) (H : Hp) (C : Addr) (cl : List (Str × Addr)) (fp : List Addr), BE (X.blk s H scope (compEnvC scope cl C X.env) fp) W0 c tt)
    (he : ∀ (s : Shared) (H : Hp) (C : Addr) (cl : List (Str × Addr)) (fp : List Addr), EE (X.blk s H scope (compEnvC scope cl C X.env) fp) W0 elt te) (hs : ∀ x, foldedSetIterable iter X.env x = pure x := by intro _; rfl) : SE X W (.ListComp elt [⟨tg, iter, [c], 0⟩] scope spos) (vLc fi p (own.map (·.2)) tt te) := s_lc hc hN hi (blkOk_by (by rw [hN0, hs0]; exact ok)) hp hg (ts_one ht) he hs
theorem st_setLc1 (i : Nat) {y : Str} {py : Pos} {elt tg iter c : Expr} {scope sc0 : Scope} {N0 : List Str} {own : List (Str × Nat)} {pos spos : Pos} {p : Pat} {fi : En → Store → Res (List D)} {tt : En → Store → Res Bool} {te : En → Store → Res D} (hc : X.calm = true) (hN : X.N.Nodup) (hy : X.N[i]? = some y) (hyl : X.env.scope.names.lookup y = some .local)
    (hsw : swapsWith (.ListComp elt [⟨tg, iter, [c], 0⟩] scope pos) (some (.Name y py)) spos.line X.env = pure true) (hi : IE X W tg iter fi) (ok : blkC N0 sc0 scope own = true) (hN0 : X.N = N0) (hs0 : X.env.scope = sc0) (hp : ∀ i ∈ p.slots, i ∈ own.map (·.2))
    (hg : ∀ (s : Shared) (H : Hp) (C : Addr) (cl : List (Str × Addr)) (fp : List Addr), PG (X.blk s H scope (compEnvC scope cl C X.env) fp) tg (Pat.tg X.K p))
    (ht : ∀ (s : Shared) (H : Hp) (C : Addr) (cl : List (Str × Addr)) (fp : List Addr), BE (X.blk s H scope (compEnvC scope cl C X.env) fp) W0 c tt)
    (he : ∀ (s : Shared) (H : Hp) (C : Addr) (cl : List (Str × Addr)) (fp : List Addr), EE (X.blk s H scope (compEnvC scope cl C X.env) fp) W0 elt te) (hs : ∀ x, foldedSetIterable iter X.env x = pure x := by intro _; rfl) : ST X W (.Assign [.Name y py] (.ListComp elt [⟨tg, iter, [c], 0⟩] scope pos) spos) (sSetS i (vLc fi p (own.map (·.2)) tt te)) := st_setLc i hc hN hy hyl hsw hi (blkOk_by (by rw [hN0, hs0]; exact ok)) hp hg (ts_one ht) he hs
theorem st_setLcF1 (i : Nat) {y : Str} {py : Pos} {elt tg iter c : Expr} {scope sc0 : Scope} {N0 : List Str} {own : List (Str × Nat)} {pos spos : Pos} {p : Pat} {fi : En → Store → Res (List D)} {tt : En → Store → Res Bool} {te : En → Store → Res D} (hc : X.calm = true) (hN : X.N.Nodup) (hy : X.N[i]? = some y) (hyl : X.env.scope.names.lookup y = some .local)
    (hsw : swapsWith (.ListComp elt [⟨tg, iter, [c], 0⟩] scope pos) (some (.Name y py)) spos.line X.env = pure true) (hi : IE X W tg iter fi) (ok : blkC N0 sc0 scope own = true) (hN0 : X.N = N0) (hs0 : X.env.scope = sc0) (hp : ∀ i ∈ p.slots, i ∈ own.map (·.2))
    (hg : ∀ (s : Shared) (H : Hp) (C : Addr) (cl : List (Str × Addr)) (fp : List Addr), PG (X.blk s H scope (compEnvC scope cl C X.env) fp) tg (Pat.tg X.K p))
    (ht : ∀ (s : Shared) (H : Hp) (C : Addr) (cl : List (Str × Addr)) (fp : List Addr), BE (X.blk s H scope (compEnvC scope cl C X.env) fp) W0 c tt)
    (he : ∀ (s : Shared) (H : Hp) (C : Addr) (cl : List (Str × Addr)) (fp : List Addr), EE (X.blk s H scope (compEnvC scope cl C X.env) fp) W0 elt te) (hs : ∀ x, foldedSetIterable iter X.env x = pure x := by intro _; rfl) : ST X W (.Assign [.Name y py] (.ListComp elt [⟨tg, iter, [c], 0⟩] scope pos) spos) (sSet i (vFrz (vLc fi p (own.map (·.2)) tt te))) := st_setLcF i hc hN hy hyl hsw hi (blkOk_by (by rw [hN0, hs0]; exact ok)) hp hg (ts_one ht) he hs
end
end EV

set_option Elab.async false
set_option linter.all false
set_option autoImplicit false
set_option maxRecDepth 100000
set_option maxHeartbeats 400000
/-! the calculus for EvK -/
namespace EV
open PySem PySem.Spec PyProof.Rows L2
variable {E : ErP} {Ee : ErS}
section
variable {st : Store} {env : En} {P : D → Store → Prop} {PS : Slot → Store → Prop} {PL : List D → Store → Prop} {kvs : List (Str × Str)} {z f : Str} {nx br ct : NX} {rt : RT}
theorem go_kdIx (h : lkS kvs z = some f) (q : P (.fn f) st) : (kdIx kvs (.str z) st).holds E P := by
  unfold kdIx
  simp only [h]
  exact q
theorem go_kdIn (q : P (.bl (lkS kvs z).isSome) st) : (kdIn kvs (.str z) st).holds E P := q
theorem tab_hd {y : Str} {ps : List Str} {F : List D → Store → Res D} {tb : DefTab} : tabF ((y, ps, F) :: tb) y = some (ps, F) := by
  unfold tabF
  rw [List.find?_cons]
  simp
theorem tab_tl {k y : Str} {v : List Str × (List D → Store → Res D)} {r : Option (List Str × (List D → Store → Res D))} {tb : DefTab} (h : (k == y) = false) (h2 : tabF tb y = r) : tabF ((k, v) :: tb) y = r := by
  unfold tabF at h2 ⊢
  rw [List.find?_cons, h]
  exact h2
theorem go_callL {i : Nat} {tb : DefTab} {fa : En → Store → Res (List D)} {y : Str} {ps : List Str} {F : List D → Store → Res D} (h : env[i]? = some (.vl (.fn y))) (ht : tabF tb y = some (ps, F)) (q : (fa env st).holds E fun ds st => ds.length = ps.length ∧ (F ds st).holds E P) : (vCallL i tb fa env st).holds E P := by
  unfold vCallL
  simp only [h, ht]
  rw [Res.holds_bind]
  exact q.imp fun ds st h => go_fnN h.1 h.2
theorem go_lenEq {α β : Type} {xs : List α} {ys : List β} {Q : Prop} (h : xs.length = ys.length) (q : Q) : xs.length = ys.length ∧ Q := ⟨h, q⟩
theorem go_star {d : D} {i : Nat} {ps : List Pat} {ds : List D} {bs : List (Nat × D)} (hd : d = .tup ds) (hb : i < ps.length ∧ ps.length ≤ ds.length + 1 ∧ ds.length ≤ 16384)
    (h : Pat.binds ps (ds.take i ++ [.lst ((ds.drop i).take (ds.length + 1 - ps.length))] ++ (ds.drop i).drop (ds.length + 1 - ps.length)) = some bs) (q : nx (bindE env bs) st) : (gStar i ps d env st).runs Ee nx rt br ct := by
  subst hd
  unfold gStar
  simp only [if_pos hb, h]
  exact q
theorem go_lrng2 {a b : Int} (h : -1000000 ≤ a ∧ a ≤ 1000000 ∧ -1000000 ≤ b ∧ b ≤ 1000000) (q : PS (.ol (rngD a (b - a).toNat)) st) : (lrng2 (.int a) (.int b) st).holds E PS := by
  unfold lrng2
  have e : -(2 ^ 62) ≤ a ∧ a < 2 ^ 62 ∧ -(2 ^ 62) ≤ b ∧ b < 2 ^ 62 ∧ (b - a).toNat ≤ 2 ^ 24 := by
    have h24 : (2 : Nat) ^ 24 = 16777216 := by decide
    omega
  simp only [if_pos e]
  exact q
theorem go_lrng1 {b : Int} (h : -1000000 ≤ b ∧ b ≤ 1000000) (q : PS (.ol (rngD 0 (b - 0).toNat)) st) : (lrng1 (.int b) st).holds E PS := go_lrng2 ⟨by decide, by decide, h.1, h.2⟩ q
theorem go_rep {xs : List D} {k : Int} (h1 : xs ≠ []) (h2 : 2 ≤ k ∧ k ≤ 1000) (h3 : xs.length ≤ 1000) (q : P (.tup (List.replicate k.toNat xs).flatten) st) : (repD (.tup xs) (.int k) st).holds E P := by
  unfold repD
  have e : xs ≠ [] ∧ 2 ≤ k ∧ k ≤ 1000 ∧ xs.length ≤ 1000 := ⟨h1, h2.1, h2.2, h3⟩
  simp only [if_pos e]
  exact q
theorem go_inX {x y : D} {b : Bool} (h : inX st x y = some b) (q : P (.bl b) st) : (inD x y st).holds E P := by
  unfold inD
  rw [h]
  exact q
theorem go_notinX {x y : D} {b : Bool} (h : inX st x y = some b) (q : P (.bl (!b)) st) : (notinD x y st).holds E P := by
  unfold notinD
  rw [h]
  exact q
theorem go_inL {x : D} {ys : List D} {b : Bool} (h : inB x ys = some b) (q : P (.bl b) st) : (inD x (.lst ys) st).holds E P := go_inX h q
theorem go_notinL {x : D} {ys : List D} {b : Bool} (h : inB x ys = some b) (q : P (.bl (!b)) st) : (notinD x (.lst ys) st).holds E P := go_notinX h q
end
theorem rng_mem {lo : Int} {n : Nat} {d : D} (h : d ∈ rngD lo n) : ∃ i : Int, d = .int i ∧ lo ≤ i ∧ i < lo + n := by
  unfold rngD at h
  obtain ⟨i, hi, rfl⟩ := List.mem_map.mp h
  have := List.mem_range.mp hi
  exact ⟨_, rfl, by omega, by omega⟩
theorem rng_length {lo : Int} {n : Nat} : (rngD lo n).length = n := by
  unfold rngD
  rw [List.length_map, List.length_range]
theorem lcL_filter {p : Pat} {tt : En → Store → Res Bool} {te : En → Store → Res D} {env : En} {st : Store} {f : D → Bool} {g : D → D} : ∀ {ds : List D},
    (∀ d ∈ ds, ∃ bs, Pat.bind p d = some bs ∧ (tt (bindE env bs) st).holds noE (fun c s => c = f d ∧ s = st) ∧ (f d = true → (te (bindE env bs) st).holds noE fun y s => y = g d ∧ s = st)) → lcL p tt te env ds st = .ok ((ds.filter f).map g) st
  | [], _ => rfl
  | d :: ds, h => by
    obtain ⟨bs, e, h1, h2⟩ := h d (List.mem_cons_self ..)
    have ih := lcL_filter (ds := ds) fun x hx => h x (List.mem_cons_of_mem _ hx)
    unfold lcL
    rw [e]
    show Res.bind0 (tt (bindE env bs) st) _ = _
    rw [Res.eq_of h1]
    show (if f d = true then _ else _) = _
    cases hf : f d with
    | true =>
      rw [if_pos rfl, Res.eq_of (h2 hf)]
      show Res.bind0 (lcL p tt te env ds st) _ = _
      rw [ih, List.filter_cons_of_pos hf]
      rfl
    | false =>
      rw [if_neg (by decide), ih, List.filter_cons_of_neg (by rw [hf]; decide)]
theorem go_vLc {fi : En → Store → Res (List D)} {p : Pat} {vs : List Nat} {tt : En → Store → Res Bool} {te : En → Store → Res D} {env : En} {st : Store} {PS : Slot → Store → Prop} (f : D → Bool) (g : D → D)
    (q : (fi env st).holds E fun ds st => ds.length ≤ 1000 ∧ (∀ d ∈ ds, ∃ bs, Pat.bind p d = some bs ∧ (tt (bindE (wipeE env vs) bs) st).holds noE (fun c s => c = f d ∧ s = st) ∧ (f d = true → (te (bindE (wipeE env vs) bs) st).holds noE fun y s => y = g d ∧ s = st)) ∧ PS (.ol ((ds.filter f).map g)) st) : (vLc fi p vs tt te env st).holds E PS := by
  unfold vLc
  rw [Res.holds_bind]
  refine q.imp fun ds st h => ?_
  obtain ⟨h1, h2, h3⟩ := h
  rw [lcL_filter h2]
  refine go_mkLst ?_ h3
  rw [List.length_map]
  exact Nat.le_trans (List.length_filter_le _ _) h1
theorem mem_rng {lo i : Int} {n : Nat} (h1 : lo ≤ i) (h2 : i < lo + n) : D.int i ∈ rngD lo n := by
  unfold rngD
  refine List.mem_map.mpr ⟨(i - lo).toNat, List.mem_range.mpr (by omega), ?_⟩
  rw [show lo + (((i - lo).toNat : Nat) : Int) = i by omega]
theorem go_pow8 {st : Store} {P : D → Store → Prop} (q : P (.int 100000000) st) : (powD (.int 10) (.int 8) st).holds E P := go_pow (by decide) (by decide) q
theorem go_mul9 {st : Store} {P : D → Store → Prop} (q : P (.int 900000000) st) : (mulD (.int 9) (.int 100000000) st).holds E P := go_mul (lg2 (a := 9) (b := 100000000) (by decide) (by decide)) q
end EV

set_option Elab.async false
set_option linter.all false
set_option autoImplicit false
set_option maxRecDepth 100000
set_option maxHeartbeats 400000
/-! own classes: fields, methods, instances made -/
namespace EV
open PySem PySem.Spec PyProof.Rows L2

/-! ### attributes -/
def lkF (fs : List (Str × D)) (f : Str) : Option D := match fs with
  | [] => none
  | (x, d) :: r => if x == f then some d else lkF r f
def putA (f : Str) (d : D) : List (Str × D) → List (Str × D)
  | [] => [(f, d)]
  | (x, e) :: r => if x == f then (x, d) :: r else (x, e) :: putA f d r
section
variable {K : PySem.W.Frag} {mg : Str → Option Value} {g : G}
theorem RepF.get {f : Str} : ∀ {fs : List (Str × D)} {zs : List (Str × V)}, RepF K mg g fs zs → (∀ d, lkF fs f = some d → ∃ v, zs.lookup f = some v ∧ Rep K mg g d v) ∧ (lkF fs f = none → zs.lookup f = none)
  | _, _, .nil => ⟨fun d e => (nomatch e), fun _ => rfl⟩
  | _, _, .cons (x := x) (d := d0) (v := v0) (fs := fs) (zs := zs) r t => by
    obtain ⟨i1, i2⟩ := RepF.get (f := f) t
    unfold lkF
    by_cases h : x = f
    · subst h
      rw [if_pos (by simp)]
      refine ⟨fun d e => ?_, fun e => by cases e⟩
      cases e
      exact ⟨v0, by simp [List.lookup], r⟩
    · have h1 : (x == f) = false := by simpa using h
      have h2 : (f == x) = false := by simpa using Ne.symm h
      rw [if_neg (by rw [h1]; decide)]
      have e0 : List.lookup f ((x, v0) :: zs) = zs.lookup f := by simp [List.lookup, h2]
      rw [e0]
      exact ⟨i1, i2⟩
theorem RepF.put {f : Str} {d : D} {v : V} (r : Rep K mg g d v) : ∀ {fs : List (Str × D)} {zs : List (Str × V)}, RepF K mg g fs zs → RepF K mg g (putA f d fs) (putF f v zs)
  | _, _, .nil => .cons r .nil
  | _, _, .cons (x := x) (d := d0) (v := v0) (fs := fs) (zs := zs) r0 t => by
    unfold putA putF
    by_cases h : x = f
    · subst h
      rw [if_pos (by simp), if_pos rfl]
      exact .cons r t
    · have h1 : (x == f) = false := by simpa using h
      rw [if_neg (by rw [h1]; decide), if_neg h]
      exact .cons r0 (RepF.put r t)
theorem RepF.len : ∀ {fs : List (Str × D)} {zs : List (Str × V)}, RepF K mg g fs zs → fs.length = zs.length
  | _, _, .nil => rfl
  | _, _, .cons _ t => by simp [RepF.len t]
/-- an instance in the store -/
theorem SOk.objI {st : Store} {H : Hp} (S : SOk K mg g st H) {n : Nat} {v : V} {C : Str} {fs : List (Str × D)} (r : Rep K mg g (.ref n) v) (e : st[n]? = some (.ins C fs)) :
    ∃ a dx c zs, v = .ref a ∧ g.m[n]? = some (a, [a, dx]) ∧ mg C = some (.ref c) ∧ H a = some (.ins c dx zs) ∧ H dx = some (.own a) ∧ dx ≠ a ∧ RepF K mg g fs zs := by
  cases r with
  | @ref _ a h =>
    obtain ⟨p, h1, h2⟩ := S.ob.get e
    cases h2 with
    | @ins _ _ zs b dx c m1 m2 m3 m4 m5 =>
      have z : b = a := by
        unfold G.rs at h
        rw [List.getElem?_map, h1] at h
        exact Option.some.inj h
      subst z
      exact ⟨b, dx, c, zs, rfl, h1, m1, m2, m3, m4, m5⟩
/-- an object of the store is written -/
theorem SOk.wrG {st : Store} {H : Hp} {n : Nat} {p : Addr × List Addr} {o : HO} {so : SObj} (S : SOk K mg g st H) (hm : g.m[n]? = some p) (hp : p.1 ∈ p.2) (ob : ObOk K mg g (upd H p.1 o) so p) :
    SOk K mg g (st.set n so) (upd H p.1 o) ∧ Step g H [] g (upd H p.1 o) [] := by
  have hf : p.1 ∈ g.fp := List.mem_flatMap.mpr ⟨p, List.mem_of_getElem? hm, hp⟩
  have hk := S.fr p.1 hf
  have keep : ∀ x, H x ≠ none → upd H p.1 o x ≠ none := fun x hx => by
    by_cases e : x = p.1
    · subst e; rw [upd_same]; simp
    · rw [upd_ne e]; exact hx
  refine ⟨⟨fun x u h => ?_, S.nd, S.fr, fun x hx => keep x (S.th x hx), S.ob.set hm S.nd (fun x hx => upd_ne (fun z => hx (by rw [z]; exact hp))) ob⟩, ⟨Ext.refl g, fun x _ hx _ => upd_ne (by rintro rfl; exact hx hf), keep, fun _ h => .inl h, fun _ h => .inl h, fun _ h => nomatch h⟩⟩
  rw [upd_ne (by rintro rfl; rw [hk] at h; cases h)]
  exact S.kp x u h
end

/-! ### o.f -/
def FldOk (K : PySem.W.Frag) (mg : Str → Option Value) (C f : Str) : Prop := ∃ c, mg C = some (.ref c) ∧ Cls K c ∧ NoAttr K c f
def FldTab (K : PySem.W.Frag) (mg : Str → Option Value) (f : Str) (tb : List Str) : Prop := ∀ C ∈ tb, FldOk K mg C f
def fldF (tb : List Str) (f : Str) : D → Store → Res D := fun o st => match o with
  | .ref n => match st[n]? with
    | some (.ins C fs) => if C ∈ tb then (match lkF fs f with
      | some d => .ok d st
      | none => .stuck) else .stuck
    | _ => .stuck
  | _ => .stuck
section
variable {X : Cx} {W : Wi} {o e : Expr} {es : List Expr} {fo fe : En → Store → Res D} {fa : En → Store → Res (List D)} {pos p apos : Pos} {f m : Str} {tb : List Str}
theorem e_fld (ho : EE X W o fo) (hT : FldTab X.K X.mg f tb) (hb : attributeBase o f X.env (eval o X.env) = eval o X.env := by rfl) : EE X W (.Attribute o f pos) (v1 (fldF tb f) fo) := by
  refine ⟨fun pins s σ H Q I h => ?_⟩
  obtain ⟨g, env, st, os, hv, hos, hS, h⟩ := h
  refine (pe_fld ho hb).run pins s σ H Q I ⟨g, env, st, os, hv, hos, hS, (Post.bind h).imp fun x H1 q => ?_⟩
  obtain ⟨g1, d, st1, s1, r, S1, h1⟩ := q
  unfold fldF at h1
  split at h1
  · next n =>
    split at h1
    · next C fs he =>
      split at h1
      · next hm =>
        split at h1
        · next d hd =>
          obtain ⟨a, dx, c, zs, rfl, q1, q2, q3, q4, q5, q6⟩ := S1.objI r he
          obtain ⟨c', mc, cl, na⟩ := hT C hm
          rw [q2] at mc
          cases mc
          obtain ⟨v, w1, w2⟩ := (q6.get (f := f)).1 d hd
          exact ⟨a, c, dx, zs, v, rfl, q3, cl, na, w1, h1.here w2 S1⟩
        · exact h1.elim
      · exact h1.elim
    · exact h1.elim
  · exact h1.elim
/-! ### o.f = .. -/
def setF (tb : List Str) (f : Str) (o d : D) (st : Store) : Option Store := match o with
  | .ref n => match st[n]? with
    | some (.ins C fs) => if C ∈ tb ∧ fs.length < 1000 then some (st.set n (.ins C (putA f d fs))) else none
    | _ => none
  | _ => none
theorem setF_ok {K : PySem.W.Frag} {mg : Str → Option Value} {g : G} {st st' : Store} {H : Hp} {od d : D} {x v : V} (S : SOk K mg g st H) (ro : Rep K mg g od x) (rd : Rep K mg g d v) (hT : FldTab K mg f tb) (e : setF tb f od d st = some st') :
    ∃ a c dx zs, x = .ref a ∧ H a = some (.ins c dx zs) ∧ Cls K c ∧ NoAttr K c f ∧ zs.length < 1000 ∧ SOk K mg g st' (upd H a (.ins c dx (putF f v zs))) ∧ Step g H [] g (upd H a (.ins c dx (putF f v zs))) [] := by
  unfold setF at e
  split at e
  · next n =>
    split at e
    · next C fs he =>
      split at e
      · next hm =>
        cases e
        obtain ⟨a, dx, c, zs, rfl, q1, q2, q3, q4, q5, q6⟩ := S.objI ro he
        obtain ⟨c', mc, cl, na⟩ := hT C hm.1
        rw [q2] at mc
        cases mc
        obtain ⟨S', s'⟩ := S.wrG (o := .ins c dx (putF f v zs)) (so := .ins C (putA f d fs)) q1 (by simp) (.ins q2 upd_same ((upd_ne q5).trans q4) q5 (q6.put rd))
        exact ⟨a, c, dx, zs, rfl, q3, cl, na, by rw [← q6.len]; exact hm.2, S', s'⟩
      · cases e
    · cases e
  · cases e
def gFld (tb : List Str) (f : Str) (fo : En → Store → Res D) : D → En → Store → ResS := fun d env st => (fo env st).go env fun o st => match setF tb f o d st with
  | some st => .nx env st
  | none => .stuck
theorem g_fld (ho : EE X W o fo) (hT : FldTab X.K X.mg f tb) : GE X W (.Attribute o f pos) (gFld tb f fo) := by
  refine ⟨fun pins s σ H v u Q I r h => ?_⟩
  obtain ⟨g, env, st, os, hv, hos, hS, d, rd, h⟩ := h
  rw [assign_Attribute]
  refine wpAny_bind (wpAny_holding (thn (ho.run pins s σ H (fun x H1 => ∃ g1 od st1, Rep X.K X.mg g1 od x ∧ SOk X.K X.mg g1 st1 H1 ∧ Step g H [] g1 H1 [] ∧ EnvOk X.K X.mg g1 H1 env σ os ∧ OsOk g1 H1 os ∧ PostSt X.K X.mg W g1 H1 os { nx := Q, rt := fun _ _ => False } (match setF tb f od d st1 with | some st => .nx env st | none => .stuck)) I ⟨g, env, st, os, hv, hos, hS, (PostSt.go hv hos h).imp fun x H1 q => ?_⟩) fun ov s1 ⟨x, H1, I1, r1, q1⟩ => ?_))
  · obtain ⟨g1, od, st1, s1, ro, S1, e1, o1, h1⟩ := q
    exact ⟨g1, od, st1, ro, S1, s1, e1, o1, h1⟩
  · obtain ⟨g1, od, st1, ro, S1, s1', e1, o1, h1⟩ := q1
    refine wpAny_bind (wpAny_standAt ?_)
    split at h1
    · next st2 hset =>
      obtain ⟨a, c, dx, zs, rfl, w1, w2, w3, w4, w5, w6⟩ := setF_ok S1 ro (rd.ext s1'.ext) hT hset
      cases r1
      refine wpAny_bind (wpAny_holding (setattr_ok I1 w1 w2 w3 w4 r fun s2 I2 => ?_))
      exact wpAny_release ⟨σ, _, I2, h1 σ g1 _ os (w6.frame os) (e1.step' o1 w6) (o1.step w6) w5⟩
    · exact (h1 : False).elim
/-- o.f = e -/
theorem st_fld (he : EE X W e fe) (ho : EE X W o fo) (hT : FldTab X.K X.mg f tb) {pos' : Pos} (hs : swapsWithSole [.Attribute o f pos'] e pos.line X.env = pure false := by rfl) (hw : swappedStores [.Attribute o f pos'] e X.env = pure none := by rfl)
    (h1 : (assignEach [.Attribute o f pos'] X.env).map (·.2) = [assign (.Attribute o f pos') X.env] := by rfl) : ST X W (.Assign [.Attribute o f pos'] e pos) (sAsg fe (gFld tb f fo)) := st_asg he (g_fld ho hT) hs hw h1
end
end EV

set_option Elab.async false
set_option linter.all false
set_option autoImplicit false
set_option maxRecDepth 100000
set_option maxHeartbeats 400000
/-! methods called, instances made -/
namespace EV
open PySem PySem.Spec PyProof.Rows L2

theorem Rm.make {k : Nat} {A : Around} (r : Rm (k + 1) A) (C : Addr) (us : List Value) (kw : List (Str × Value)) : Rm k (A.under (.builtin "type.__call__" ⟨.ref C :: us, kw⟩)) :=
  ⟨r.room.make C us kw, by first | exact r.gd | (show A.guards.map _ = _; rw [r.gd]; rfl) | (simp [Around.under, r.gd]; done)⟩
def MethOk (P : Program) (w : World) (K : PySem.W.Frag) (mg : Str → Option Value) (base : Heap) (k : Nat) (m C : Str) (ps : List Str) (F : List D → Store → Res D) : Prop :=
  ∃ c f fd, mg C = some (.ref c) ∧ Cls K c ∧ Meth K c m f ∧ Binds K fd ps [] ∧ FnG P w K mg base k f fd ps (spE K mg ps.length F)
theorem MethOk.mono {P : Program} {w : World} {K : PySem.W.Frag} {mg : Str → Option Value} {base : Heap} {j k : Nat} {m C : Str} {ps : List Str} {F : List D → Store → Res D} (h : MethOk P w K mg base j m C ps F) (hk : j ≤ k) : MethOk P w K mg base k m C ps F := by
  obtain ⟨c, f, fd, h1, h2, h3, h4, h5⟩ := h
  exact ⟨c, f, fd, h1, h2, h3, h4, h5.mono hk⟩
def MethTab (P : Program) (w : World) (K : PySem.W.Frag) (mg : Str → Option Value) (base : Heap) (k : Nat) (m : Str) : DefTab → Prop
  | [] => True
  | p :: tb => MethOk P w K mg base k m p.1 p.2.1 p.2.2 ∧ MethTab P w K mg base k m tb
theorem MethTab.at_ {P : Program} {w : World} {K : PySem.W.Frag} {mg : Str → Option Value} {base : Heap} {k : Nat} {m y : Str} {ps : List Str} {F : List D → Store → Res D} : ∀ {tb : DefTab}, MethTab P w K mg base k m tb → tabF tb y = some (ps, F) → MethOk P w K mg base k m y ps F
  | [], _, e => by cases e
  | p :: tb, ⟨h, t⟩, e => by
    unfold tabF at e
    rw [List.find?_cons] at e
    cases hz : (p.1 == y) with
    | true =>
      rw [hz] at e
      have e1 : p.2 = (ps, F) := Option.some.inj e
      have e2 : p.1 = y := by simpa using hz
      obtain ⟨x, ps', F'⟩ := p
      cases e1
      cases e2
      exact h
    | false =>
      rw [hz] at e
      exact MethTab.at_ t e
def InitOk (P : Program) (w : World) (K : PySem.W.Frag) (mg : Str → Option Value) (base : Heap) (k : Nat) (C : Str) (ps : List Str) (F : List D → Store → Res D) : Prop :=
  ∃ c f fd, mg C = some (.ref c) ∧ Mk K c f ∧ Binds K fd ps [] ∧ FnG P w K mg base k f fd ps (spE K mg ps.length F)
theorem InitOk.mono {P : Program} {w : World} {K : PySem.W.Frag} {mg : Str → Option Value} {base : Heap} {j k : Nat} {C : Str} {ps : List Str} {F : List D → Store → Res D} (h : InitOk P w K mg base j C ps F) (hk : j ≤ k) : InitOk P w K mg base k C ps F := by
  obtain ⟨c, f, fd, h1, h2, h3, h4⟩ := h
  exact ⟨c, f, fd, h1, h2, h3, h4.mono hk⟩

section
variable {X : Cx} {W : Wi} {o e : Expr} {es : List Expr} {fo fe : En → Store → Res D} {fa : En → Store → Res (List D)} {pos p apos : Pos} {C m : Str} {tb : DefTab} {k : Nat} {ps : List Str} {F : List D → Store → Res D}
/-- o.m(..) by the class of o -/
def methD (tb : DefTab) (m : Str) (fa : En → Store → Res (List D)) (env : En) : D → Store → Res D := fun o st => match o with
  | .ref n => match st[n]? with
    | some (.ins C fs) => match lkF fs m, tabF tb C with
      | none, some (ps, F) => (fa env st).bind fun ds st => fnN ps.length F (.ref n :: ds) st
      | _, _ => .stuck
    | _ => .stuck
  | _ => .stuck
def vMeth (tb : DefTab) (m : Str) (fo : En → Store → Res D) (fa : En → Store → Res (List D)) : En → Store → Res D := fun env st => (fo env st).bind (methD tb m fa env)
/-- what is between the receiver and the callee -/
theorem meth_at {pl : Sem Bool} {pins : List (Addr × Obj)} {s : Shared} {σ : L2.St} {H : Hp} {Q : VK} {args : List Expr} (hT : MethTab X.prog X.w X.K X.mg X.base k m tb) (ho : EE X W o fo) (I : L2.Inv X pins σ H s) (h : tE X.K X.mg W (vMeth tb m fo fa) σ H Q)
    (ht : eval (.Call (.Attribute o m apos) args [] pos) X.env = (do let recv ← eval o X.env; standAt apos.atName; let (fn, fst) ← holding [recv] (getMethod recv m pl); callWith pos fn fst (backTo pos (starEach args X.env)) (backToKw pos (keywordEach [] X.env))))
    (hrun : ∀ (g1 : G) (env : En) (st1 : Store) (os : List Addr) (n : Nat) (a c f : Addr) (fd : FuncData) (ps : List Str) (F : List D → Store → Res D) (s1 : Shared) (H1 : Hp), L2.Inv X pins σ H1 s1 → EnvOk X.K X.mg g1 H1 env σ os → OsOk g1 H1 os → SOk X.K X.mg g1 st1 H1 → Rep X.K X.mg g1 (.ref n) (.ref a) →
      Meth X.K c m f → Binds X.K fd ps [] → FnG X.prog X.w X.K X.mg X.base k f fd ps (spE X.K X.mg ps.length F) → Post X.K X.mg (Rep X.K X.mg) W g1 H1 σ ((fa env st1).bind fun ds st => fnN ps.length F (.ref n :: ds) st) Q →
      wpAny (model X.prog X.w) X.A (callWith pos (.ref f) [.ref a] (backTo pos (starEach args X.env)) (backToKw pos (keywordEach [] X.env))) (EP X pins σ Q) X.xe s1) :
    wpAny (model X.prog X.w) X.A (eval (.Call (.Attribute o m apos) args [] pos) X.env) (EP X pins σ Q) X.xe s := by
  obtain ⟨g, env, st, os, hv, hos, hS, h⟩ := h
  refine PySem.W.methodCall_KW (pl := pl) (thn (ho.run pins s σ H _ I ⟨g, env, st, os, hv, hos, hS, Post.bind h⟩) fun u s1 ⟨x, H1, I1, rx, q⟩ => ?_) ht
  obtain ⟨g1, d, st1, s1', r, S1, h1⟩ := q
  unfold methD at h1
  split at h1
  · next n =>
    split at h1
    · next C fs he =>
      split at h1
      · next ps F hl hF =>
        obtain ⟨a, dx, c, zs, rfl, q1, q2, q3, q4, q5, q6⟩ := S1.objI r he
        obtain ⟨c', f, fd, mc, cl, hm, hb, FG⟩ := hT.at_ hF
        rw [q2] at mc
        cases mc
        cases rx
        refine getmeth_ok I1 q3 cl hm ((q6.get (f := m)).2 hl) ?_
        exact hrun g1 env st1 os n a c f fd ps F s1 H1 I1 (hv.step' hos s1') (hos.step s1') S1 r hm hb FG h1
      · exact h1.elim
    · exact h1.elim
  · exact h1.elim
theorem run_to {pins : List (Addr × Obj)} {σ : L2.St} {H : Hp} {s : Shared} {Q : VK} {f : Addr} {fd : FuncData} {us : List Value} {vs : List V} {g : G} {ds : List D} {st : Store} (FG : FnG X.prog X.w X.K X.mg X.base k f fd ps (spE X.K X.mg ps.length F)) (hr : Rm k X.A) (tk : Takes X (wOf X.K X.mg W))
    (hb : Binds X.K fd ps []) (I : L2.Inv X pins σ H s) (r : Vals vs us) (rd : RepL X.K X.mg g ds vs) (S : SOk X.K X.mg g st H) (h : Post X.K X.mg (Rep X.K X.mg) W g H σ (fnN ps.length F ds st) Q) :
    wpAny (model X.prog X.w) X.A (call (.ref f) us) (EP X pins σ Q) X.xe s := by
  unfold fnN at h
  split at h
  · next hl =>
    have hb' := hb s us I.kIn (by rw [List.append_nil, ← r.length, ← rd.length]; exact hl)
    rw [List.append_nil] at hb'
    refine wpAny_call (codeAny_mono (run_fnG FG hr tk hb' I r hl rd S h) fun r s' hq => ?_)
    cases r with
    | error e => exact hq
    | ok fl =>
      cases fl with
      | ret u => exact hq
      | next => exact False.elim hq
      | brk => exact False.elim hq
      | cont => exact False.elim hq
  · exact h.elim
theorem e_meth {pl : Sem Bool} (hT : MethTab X.prog X.w X.K X.mg X.base k m tb) (hr : Rm k X.A) (tk : Takes X (wOf X.K X.mg W)) (ho : EE X W o fo) (ha : AE X W (e :: es) fa)
    (hst : starEach (e :: es) X.env = (false, eval e X.env) :: starEach es X.env := by rfl) (hpl : (backTo pos (starEach es X.env)).any (·.1) = false := by rfl)
    (ht : eval (.Call (.Attribute o m apos) (e :: es) [] pos) X.env = (do let recv ← eval o X.env; standAt apos.atName; let (fn, fst) ← holding [recv] (getMethod recv m pl); callWith pos fn fst (backTo pos (starEach (e :: es) X.env)) (backToKw pos (keywordEach [] X.env))) := by rfl) :
    EE X W (.Call (.Attribute o m apos) (e :: es) [] pos) (vMeth tb m fo fa) := by
  refine ⟨fun pins s σ H Q I h => meth_at (pl := pl) hT ho I h ht ?_⟩
  intro g1 env st1 os n a c f fd ps F s1 H1 I1 e1 o1 S1 r hm hb FG h1
  refine PySem.W.callWith_K (first := [.ref a]) (h₀ := X.base) I1.ok.mod.kin hm.kp (thn (ha.run pos pins s1 σ H1 _ I1 ⟨g1, env, st1, os, e1, o1, S1, Post.bind h1⟩) fun us s2 ⟨vs, H2, I2, r2, q⟩ => ⟨I2.kIn, ?_⟩) hst hpl
  obtain ⟨g2, ds, st2, s2', rd, S2, h2⟩ := q
  exact run_to (us := .ref a :: us) (vs := .ref a :: vs) FG hr tk hb I2 (.cons rfl r2) (.cons (r.ext s2'.ext) rd) S2 h2
theorem e_meth0 {pl : Sem Bool} (hT : MethTab X.prog X.w X.K X.mg X.base k m tb) (hr : Rm k X.A) (tk : Takes X (wOf X.K X.mg W)) (ho : EE X W o fo)
    (ht : eval (.Call (.Attribute o m apos) [] [] pos) X.env = (do let recv ← eval o X.env; standAt apos.atName; let (fn, fst) ← holding [recv] (getMethod recv m pl); callWith pos fn fst (backTo pos (starEach [] X.env)) (backToKw pos (keywordEach [] X.env))) := by rfl) :
    EE X W (.Call (.Attribute o m apos) [] [] pos) (vMeth tb m fo vNil) := by
  refine ⟨fun pins s σ H Q I h => meth_at (pl := pl) hT ho I h ht ?_⟩
  intro g1 env st1 os n a c f fd ps F s1 H1 I1 e1 o1 S1 r hm hb FG h1
  exact PySem.W.callWith_K0 (first := [.ref a]) I1.kIn hm.kp (run_to (us := [.ref a]) (vs := [.ref a]) FG hr tk hb I1 (.cons rfl .nil) (.cons r .nil) S1 h1)

/-! ### C(..) -/
def makeD (C : Str) (n : Nat) (F : List D → Store → Res D) : List D → Store → Res D := fun ds st => (fnN n F (.ref st.length :: ds) (st ++ [.ins C []])).bind fun d st' => match d with
  | .non => .ok (.ref st.length) st'
  | _ => .stuck
def G.objP (g : G) (p : Addr × List Addr) : G := ⟨g.kp, g.m ++ [p]⟩
theorem G.objP_fp (g : G) (p : Addr × List Addr) : (g.objP p).fp = g.fp ++ p.2 := by simp [G.objP, G.fp, fpOf]
theorem G.objP_rs (g : G) (p : Addr × List Addr) : (g.objP p).rs = g.rs ++ [p.1] := by simp [G.objP, G.rs]
theorem ext_objP {g : G} {p : Addr × List Addr} : Ext g (g.objP p) := ⟨fun _ _ h => h, fun n a h => by
  rw [G.objP_rs, List.getElem?_append_left (List.getElem?_eq_some_iff.mp h).1]
  exact h⟩
theorem SOk.newI {K : PySem.W.Frag} {mg : Str → Option Value} {g : G} {st : Store} {H : Hp} {x dx c : Addr} (S : SOk K mg g st H) (hx : H x = none) (hdx : H dx = none) (ne : dx ≠ x) (mc : mg C = some (.ref c)) :
    SOk K mg (g.objP (x, [x, dx])) (st ++ [.ins C []]) (upd (upd H dx (.own x)) x (.ins c dx [])) ∧ Step g H [] (g.objP (x, [x, dx])) (upd (upd H dx (.own x)) x (.ins c dx [])) [] ∧ Rep K mg (g.objP (x, [x, dx])) (.ref st.length) (.ref x) := by
  have kx := S.kpn hx
  have kd := S.kpn hdx
  have fx := S.fpn hx
  have fd := S.fpn hdx
  have off : ∀ a, H a ≠ none → upd (upd H dx (.own x)) x (.ins c dx []) a = H a := fun a ha => by
    rw [upd_ne (by rintro rfl; exact ha hx), upd_ne (by rintro rfl; exact ha hdx)]
  have nw : upd (upd H dx (.own x)) x (.ins c dx []) dx = some (.own x) := by rw [upd_ne ne, upd_same]
  refine ⟨⟨fun a u h => ?_, ?_, fun a ha => ?_, fun a ha => ?_, ?_⟩, ⟨ext_objP, fun a ha _ _ => off a ha, fun a ha => by rw [off a ha]; exact ha, fun a ha => ?_, fun a ha => .inl ha, fun a ha => nomatch ha⟩, .ref ?_⟩
  · have h' : g.kp a = some u := h
    rw [off a (by rw [S.kp a u h']; simp)]
    exact S.kp a u h'
  · rw [G.objP_fp, List.nodup_append]
    refine ⟨S.nd, by simp [Ne.symm ne], fun a ha b hb e => ?_⟩
    subst e
    simp only [List.mem_cons, List.not_mem_nil, or_false] at hb
    rcases hb with rfl | rfl
    · exact fx ha
    · exact fd ha
  · rw [G.objP_fp] at ha
    rcases List.mem_append.mp ha with ha | ha
    · exact S.fr a ha
    · simp only [List.mem_cons, List.not_mem_nil, or_false] at ha
      rcases ha with rfl | rfl
      · exact kx
      · exact kd
  · rw [G.objP_fp] at ha
    rcases List.mem_append.mp ha with ha | ha
    · rw [off a (S.th a ha)]; exact S.th a ha
    · simp only [List.mem_cons, List.not_mem_nil, or_false] at ha
      rcases ha with rfl | rfl
      · rw [upd_same]; simp
      · rw [nw]; simp
  · exact (S.ob.step ext_objP fun a ha => off a (S.th a ha)).snoc (.ins mc upd_same nw ne .nil)
  · rw [G.objP_fp] at ha
    rcases List.mem_append.mp ha with ha | ha
    · exact .inl ha
    · simp only [List.mem_cons, List.not_mem_nil, or_false] at ha
      rcases ha with rfl | rfl
      · exact .inr (.inl hx)
      · exact .inr (.inl hdx)
  · rw [G.objP_rs, List.getElem?_append_right (by rw [S.ob.length]; simp [G.rs])]
    rw [S.ob.length]
    simp [G.rs]
theorem run_mk {pins : List (Addr × Obj)} {σ : L2.St} {H : Hp} {s : Shared} {Q : VK} {us : List Value} {vs : List V} {g : G} {ds : List D} {st : Store} (MI : InitOk X.prog X.w X.K X.mg X.base k C ps F) (hr : Rm (k + 1) X.A) (tk : Takes X (wOf X.K X.mg W))
    {c : Addr} (mc : X.mg C = some (.ref c)) (I : L2.Inv X pins σ H s) (r : Vals vs us) (rd : RepL X.K X.mg g ds vs) (S : SOk X.K X.mg g st H) (h : Post X.K X.mg (Rep X.K X.mg) W g H σ (makeD C ps.length F ds st) Q) :
    wpAny (model X.prog X.w) X.A (call (.ref c) us) (EP X pins σ Q) X.xe s := by
  obtain ⟨c', f, fd, mc', M, hb, FG⟩ := MI
  rw [mc] at mc'
  cases mc'
  have nx := I.hok.fresh (Nat.le_succ s.heap.objs.size)
  have nd := I.hok.fresh (Nat.le_refl s.heap.objs.size)
  have ne : s.heap.objs.size ≠ s.heap.objs.size + 1 := Nat.ne_of_lt (Nat.lt_succ_self _)
  obtain ⟨S2, s2, r2⟩ := S.newI (C := C) nx nd ne mc
  have I2 := Inv.made (C := c) I
  have rv : Vals (V.ref (s.heap.objs.size + 1) :: vs) (Value.ref (s.heap.objs.size + 1) :: us) := .cons rfl r
  have rl : RepL X.K X.mg (g.objP (s.heap.objs.size + 1, [s.heap.objs.size + 1, s.heap.objs.size])) (.ref st.length :: ds) (V.ref (s.heap.objs.size + 1) :: vs) := .cons r2 (rd.ext s2.ext)
  unfold makeD at h
  have h2 := Post.bind (R := Rep X.K X.mg) (Post.step h s2)
  unfold fnN at h2
  split at h2
  · next hl =>
    have hb' := hb { s with heap := (s.heap.push PySem.W.emptyDict).push (PySem.W.instObj c s.heap.objs.size) } (Value.ref (s.heap.objs.size + 1) :: us) I2.kIn (by rw [List.append_nil, ← rv.length, ← rl.length]; exact hl)
    rw [List.append_nil] at hb'
    refine wpAny_call (make_map (f := f) I.kIn M.makes M.init (beq_iff_eq.mp M.fn) (codeAny_mono (FG.run _ X.stack _ _ ⟨Value.ref (s.heap.objs.size + 1) :: us, []⟩ (Value.ref (s.heap.objs.size + 1) :: us) _
      (fun v H' => v = .non ∧ Q (.ref (s.heap.objs.size + 1)) H') (fun cls d H' => ∃ e st' g', SOk X.K X.mg g' st' H' ∧ ErOk X.K X.mg g' e cls d ∧ W e st' g' H' σ) (hr.make c us []) (I2.env0.make c us []) hb' rv ⟨_, _, _, hl, rl, S2, ?_⟩) fun r s' hq => ?_))
    · revert h2
      generalize F (.ref st.length :: ds) (st ++ [.ins C []]) = q
      intro h2
      cases q with
      | ok d st' =>
        intro v g' H' s3 r3 S3
        obtain ⟨g4, d4, st4, s4, r4, S4, h4⟩ := h2 v g' H' s3 r3 S3
        cases d4 with
        | non => cases r4; exact ⟨rfl, h4.here (r2.ext s4.ext) S4⟩
        | _ => exact h4.elim
      | er e st' => exact fun cls d g' H' s1 S1 eo => ⟨e, st', g', S1, eo, h2 g' H' s1 S1⟩
      | stuck => exact h2
    · cases r with
      | error e => exact tk _ _ (XE.of_call I2 (fun cls d H' hE => hE) hq)
      | ok fl =>
        cases fl with
        | ret u =>
          obtain ⟨v, H', I3, rv, ⟨rfl, q3⟩⟩ := I2.after hq
          exact ⟨rv, .ref (s.heap.objs.size + 1), H', I3, rfl, q3⟩
        | next => exact False.elim hq
        | brk => exact False.elim hq
        | cont => exact False.elim hq
  · exact h2.elim
variable {x : Str}
/-- C(e, ..) -/
theorem e_make (MI : InitOk X.prog X.w X.K X.mg X.base k C ps F) (hr : Rm (k + 1) X.A) (tk : Takes X (wOf X.K X.mg W)) (hg : Gl X C) (ha : AE X W (e :: es) fa)
    (hdb : (C == ("__debug__" : Str)) = false := by decide) (hst : starEach (e :: es) X.env = (false, eval e X.env) :: starEach es X.env := by rfl) (hpl : (backTo pos (starEach es X.env)).any (·.1) = false := by rfl) :
    EE X W (.Call (.Name C p) (e :: es) [] pos) (vA (makeD C ps.length F) fa) := by
  refine ⟨fun pins s σ H Q I h => ?_⟩
  obtain ⟨g, env, st, os, hv, hos, hS, h⟩ := h
  obtain ⟨c, f, fd, mc, M, hb, FG⟩ := MI
  refine wpAny_Call_Name_kw (ld_glob I hg mc ?_ hdb)
  refine PySem.W.callWith_K (h₀ := X.base) I.ok.mod.kin M.kp (thn (ha.run pos pins s σ H _ I ⟨g, env, st, os, hv, hos, hS, Post.bind h⟩) fun us s1 ⟨vs, H1, I1, r1, q⟩ => ⟨I1.kIn, ?_⟩) hst hpl
  obtain ⟨g1, ds, st1, s1', rd, S1, h1⟩ := q
  exact run_mk ⟨c, f, fd, mc, M, hb, FG⟩ hr tk mc I1 r1 rd S1 h1
theorem e_make0 (MI : InitOk X.prog X.w X.K X.mg X.base k C ps F) (hr : Rm (k + 1) X.A) (tk : Takes X (wOf X.K X.mg W)) (hg : Gl X C) (hdb : (C == ("__debug__" : Str)) = false := by decide) :
    EE X W (.Call (.Name C p) [] [] pos) (vA (makeD C ps.length F) vNil) := by
  refine ⟨fun pins s σ H Q I h => ?_⟩
  obtain ⟨g, env, st, os, hv, hos, hS, h⟩ := h
  obtain ⟨c, f, fd, mc, M, hb, FG⟩ := MI
  refine wpAny_Call_Name_kw (ld_glob I hg mc ?_ hdb)
  exact PySem.W.callWith_K0 I.kIn M.kp (run_mk (us := []) ⟨c, f, fd, mc, M, hb, FG⟩ hr tk mc I .nil .nil hS h)
end
end EV
namespace EV
open PySem PySem.Spec PyProof.Rows L2
/-! ### what the top has written of classes -/
structure TopMeth (K : PySem.W.Frag) (mg : Str → Option Value) (C m qual : Str) (st : Stmt) (ps : List Str) : Prop where
  ex : ∃ c f fd, mg C = some (.ref c) ∧ Cls K c ∧ Meth K c m f ∧ Fun K m qual st f fd ∧ Binds K fd ps []
structure TopInit (K : PySem.W.Frag) (mg : Str → Option Value) (C qual : Str) (st : Stmt) (ps : List Str) : Prop where
  ex : ∃ c f fd, mg C = some (.ref c) ∧ Mk K c f ∧ Fun K "__init__" qual st f fd ∧ Binds K fd ps []
theorem fldTab_nil {K : PySem.W.Frag} {mg : Str → Option Value} {f : Str} : FldTab K mg f [] := fun _ h => nomatch h
theorem fldTab_cons {K : PySem.W.Frag} {mg : Str → Option Value} {f C : Str} {tb : List Str} {c : Addr} (h : mg C = some (.ref c)) (cl : Cls K c) (n : NoAttr K c f) (t : FldTab K mg f tb) : FldTab K mg f (C :: tb) := fun x hx => by
  rcases List.mem_cons.mp hx with rfl | hx
  · exact ⟨c, h, cl, n⟩
  · exact t x hx
section
variable {P : Program} {w : World} {K : PySem.W.Frag} {mg : Str → Option Value} {base : Heap}
theorem meth_ok {C m qual : Str} {st : Stmt} {N ps : List Str} {k n : Nat} {body : En → Store → ResS} (T : TopMeth K mg C m qual st ps) (S : FnScope N ps (defScope st)) (hN : N.length = ps.length + n)
    (hbody : ∀ (f : Addr) (cdv : Value) (A : Around) (outer : List Env) (s : Shared) (H : Hp) (E : XK), Rm k (A.deeper (envOfC qual (defScope st) s.heap.objs.size f cdv)) →
      Takes (cxOf (CX P w) P w K mg base N qual (defScope st) f cdv A outer s H E) (wOf K mg (wE K mg E)) →
      STs (cxOf (CX P w) P w K mg base N qual (defScope st) f cdv A outer s H E) (wE K mg E) (defBody st) body) : MethOk P w K mg base (k + 1) m C ps (fnF ps.length n body) := by
  obtain ⟨c, f, fd, hm, cl, me, F, b⟩ := T.ex
  exact ⟨c, f, fd, hm, cl, me, b, fn_ok F S hN (hbody f)⟩
theorem init_ok {C qual : Str} {st : Stmt} {N ps : List Str} {k n : Nat} {body : En → Store → ResS} (T : TopInit K mg C qual st ps) (S : FnScope N ps (defScope st)) (hN : N.length = ps.length + n)
    (hbody : ∀ (f : Addr) (cdv : Value) (A : Around) (outer : List Env) (s : Shared) (H : Hp) (E : XK), Rm k (A.deeper (envOfC qual (defScope st) s.heap.objs.size f cdv)) →
      Takes (cxOf (CX P w) P w K mg base N qual (defScope st) f cdv A outer s H E) (wOf K mg (wE K mg E)) →
      STs (cxOf (CX P w) P w K mg base N qual (defScope st) f cdv A outer s H E) (wE K mg E) (defBody st) body) : InitOk P w K mg base (k + 1) C ps (fnF ps.length n body) := by
  obtain ⟨c, f, fd, hm, mk, F, b⟩ := T.ex
  exact ⟨c, f, fd, hm, mk, b, fn_ok F S hN (hbody f)⟩
end
end EV

set_option Elab.async false
set_option linter.all false
set_option autoImplicit false
set_option maxRecDepth 100000
set_option maxHeartbeats 400000
/-! methods of lists and dicts of the store; displays of dicts; sums, greatest ones -/
namespace EV
open PySem PySem.Spec PyProof.Rows L2

section
variable {X : Cx} {W : Wi} {o e e2 : Expr} {es : List Expr} {fo fe fe2 : En → Store → Res D} {fa : En → Store → Res (List D)} {pos p apos cpos : Pos}
/-- o is a list of the store -/
def isLR (st : Store) : D → Bool
  | .ref n => match st[n]? with
    | some (.cell (.ol _)) => true
    | _ => false
  | _ => false
theorem SOk.tyL {K : PySem.W.Frag} {mg : Str → Option Value} {g : G} {st : Store} {H : Hp} (S : SOk K mg g st H) {o : D} {v : V} (r : Rep K mg g o v) (h : isLR st o = true) : tyV K "list" v H := by
  unfold isLR at h
  split at h
  · next n =>
    split at h
    · next ds e =>
      obtain ⟨a, rfl, h1, h2⟩ := S.cellAt r e
      cases h2 with
      | ol h3 rl => exact Or.inl ⟨rfl, _, SqL.of h3⟩
    · cases h
  · cases h
/-- o.name(e), o a list of the store -/
def vBm (F : D → D → Store → Res D) (fo fe : En → Store → Res D) : En → Store → Res D := fun env st => (fo env st).bind fun o st => if isLR st o = true then (fe env st).bind fun d st => F o d st else .stuck
theorem e_bmL {name : Str} {id : String} {r : V → List V → Hp → VK → Prop} {F : D → D → Store → Res D} (slot : PySem.Slot "list" name id) (hty : typeOf (.builtin id) = pure (.type "method_descriptor")) (hm : MtR X id r)
    (hF : ∀ (σ : L2.St) (H : Hp) (g : G) (st : Store) (o d : D) (vo vd : V) (Q : VK), SOk X.K X.mg g st H → Rep X.K X.mg g o vo → Rep X.K X.mg g d vd → Post X.K X.mg (Rep X.K X.mg) W g H σ (F o d st) Q → r vo [vd] H Q)
    (ho : EE X W o fo) (he : EE X W e fe) (hbase : attributeBase o name X.env (eval o X.env) = eval o X.env := by rfl)
    (hfew : ((backTo cpos (starEach [e] X.env)).all (fun x => !x.1) && (backToKw cpos (keywordEach [] X.env)).all (fun x => x.1.isSome) && decide ([e].length + ([] : List Keyword).length + (if ([] : List Keyword).isEmpty then 0 else 1) < 30)) = true := by rfl)
    (hline : (apos.endLine == cpos.line) = true := by rfl) (hs : starEach [e] X.env = (false, eval e X.env) :: starEach [] X.env := by rfl) (hplain : (backTo cpos (starEach [] X.env)).any (·.1) = false := by rfl) :
    EE X W (.Call (.Attribute o name apos) [e] [] cpos) (vBm F fo fe) := by
  refine ⟨fun pins s σ H Q I h => ?_⟩
  obtain ⟨g, env, st, os, hv, hos, hS, h⟩ := h
  refine (pe_bm PySem.F.plainAttrs_list slot hty hm ho (pa_cons he pa_nil hs) hbase hfew hline hs hplain).run pins s σ H Q I ⟨g, env, st, os, hv, hos, hS, (Post.bind h).imp fun x H1 q => ?_⟩
  obtain ⟨g1, od, st1, s1, r1, S1, h1⟩ := q
  split at h1
  · next hl =>
    refine ⟨S1.tyL r1 hl, g1, env, st1, os, hv.step' hos s1, hos.step s1, S1, (Post.bind h1).imp fun y H2 q => ?_⟩
    obtain ⟨g2, d, st2, s2, r2, S2, h2⟩ := q
    exact hF σ H2 g2 st2 od d x y Q S2 (r1.ext s2.ext) r2 h2
  · exact h1.elim
def appD : D → D → Store → Res D := fun o d st => match appR o d st with
  | some st => .ok .non st
  | none => .stuck
theorem e_append (ho : EE X W o fo) (he : EE X W e fe) (hbase : attributeBase o "append" X.env (eval o X.env) = eval o X.env := by rfl)
    (hfew : ((backTo cpos (starEach [e] X.env)).all (fun x => !x.1) && (backToKw cpos (keywordEach [] X.env)).all (fun x => x.1.isSome) && decide ([e].length + ([] : List Keyword).length + (if ([] : List Keyword).isEmpty then 0 else 1) < 30)) = true := by rfl)
    (hline : (apos.endLine == cpos.line) = true := by rfl) (hs : starEach [e] X.env = (false, eval e X.env) :: starEach [] X.env := by rfl) (hplain : (backTo cpos (starEach [] X.env)).any (·.1) = false := by rfl) :
    EE X W (.Call (.Attribute o "append" apos) [e] [] cpos) (vBm appD fo fe) :=
  e_bmL PySem.F.slot_list_append PySem.F.type_list_append mt_append (fun σ H g st o d vo vd Q S ro rd q => by
    unfold appD at q
    split at q
    · next st2 h =>
      unfold appR at h
      split at h
      · next n =>
        split at h
        · next ds hn =>
          split at h
          · next hz =>
            cases h
            obtain ⟨a, vs, rfl, hm, hH, rl⟩ := S.objL ro hn
            obtain ⟨S3, s3⟩ := S.wrR hm (rl.append (.cons rd .nil))
            exact ⟨a, vs, vd, rfl, rfl, hH, by rw [← rl.length]; exact hz, q _ _ _ s3 .non S3⟩
          · cases h
        · cases h
      · cases h
    · exact q.elim) ho he hbase hfew hline hs hplain
/-- o.pop(i) -/
def popD : D → D → Store → Res D := fun o d st => match o, d with
  | .ref n, .int i => match st[n]? with
    | some (.cell (.ol ds)) => if 0 ≤ i ∧ i < ds.length ∧ ds.length ≤ 1000000 then (match ds[i.toNat]? with
      | some x => .ok x (st.set n (.cell (.ol (ds.eraseIdx i.toNat))))
      | none => .stuck) else .stuck
    | _ => .stuck
  | _, _ => .stuck
theorem RepL.erase {K : PySem.W.Frag} {mg : Str → Option Value} {g : G} : ∀ {ds : List D} {vs : List V} (i : Nat), RepL K mg g ds vs → RepL K mg g (ds.eraseIdx i) (vs.eraseIdx i)
  | _, _, _, .nil => .nil
  | _, _, 0, .cons _ t => t
  | _, _, i + 1, .cons r t => .cons r (RepL.erase i t)
theorem e_popI (ho : EE X W o fo) (he : EE X W e fe) (hbase : attributeBase o "pop" X.env (eval o X.env) = eval o X.env := by rfl)
    (hfew : ((backTo cpos (starEach [e] X.env)).all (fun x => !x.1) && (backToKw cpos (keywordEach [] X.env)).all (fun x => x.1.isSome) && decide ([e].length + ([] : List Keyword).length + (if ([] : List Keyword).isEmpty then 0 else 1) < 30)) = true := by rfl)
    (hline : (apos.endLine == cpos.line) = true := by rfl) (hs : starEach [e] X.env = (false, eval e X.env) :: starEach [] X.env := by rfl) (hplain : (backTo cpos (starEach [] X.env)).any (·.1) = false := by rfl) :
    EE X W (.Call (.Attribute o "pop" apos) [e] [] cpos) (vBm popD fo fe) :=
  e_bmL PySem.F.slot_list_pop PySem.F.type_list_pop mt_popAt (fun σ H g st o d vo vd Q S ro rd q => by
    unfold popD at q
    split at q
    · next n i =>
      split at q
      · next ds hn =>
        split at q
        · next hz =>
          split at q
          · next x hx =>
            cases rd
            obtain ⟨a, vs, rfl, hm, hH, rl⟩ := S.objL ro hn
            obtain ⟨y, hy, ry⟩ := rl.get hx
            obtain ⟨S3, s3⟩ := S.wrR hm (rl.erase i.toNat)
            refine ⟨a, vs, i, i.toNat, y, rfl, rfl, hH, by omega, by omega, ?_, hy, q _ _ _ s3 ry S3⟩
            rw [← rl.length]
            exact seqIndex_of hz.1 (by omega)
          · exact q.elim
        · exact q.elim
      · exact q.elim
    · exact q.elim) ho he hbase hfew hline hs hplain
/-! ### dicts -/
def isDR (st : Store) (o : D) : Bool := (dictOf st o).isSome
theorem SOk.isD {K : PySem.W.Frag} {mg : Str → Option Value} {g : G} {st : Store} {H : Hp} (S : SOk K mg g st H) {o : D} {v : V} (r : Rep K mg g o v) (h : isDR st o = true) : ∃ a, v = .ref a ∧ IsD H a := by
  unfold isDR at h
  cases e : dictOf st o with
  | none => rw [e] at h; cases h
  | some kvs =>
    obtain ⟨a, u, rfl, h1, h2⟩ := S.dictAt r e
    refine ⟨a, rfl, ?_⟩
    cases h2 with
    | nilK => exact .inl ⟨_, h1⟩
    | nilT => exact .inr ⟨_, h1⟩
    | consK _ _ => exact .inl ⟨_, h1⟩
    | consT _ _ => exact .inr ⟨_, h1⟩
/-- o.pop(k), it is there -/
def dpopD : D → D → Store → Res D := fun o y st => match o with
  | .ref n => match st[n]? with
    | some (.cell (.od false kvs)) => match dkOf y with
      | some (.k x) => match lkD kvs (.k x) with
        | some d => .ok d (st.set n (.cell (.od false (dropD kvs (.k x)))))
        | none => .stuck
      | _ => .stuck
    | _ => .stuck
  | _ => .stuck
def vBd (F : D → D → Store → Res D) (fo fe : En → Store → Res D) : En → Store → Res D := fun env st => (fo env st).bind fun o st => if isDR st o = true then (fe env st).bind fun d st => F o d st else .stuck
theorem e_dpop (ho : EE X W o fo) (he : EE X W e fe) (m : M1 X o "pop" apos e cpos := by exact ⟨rfl, rfl, rfl, rfl⟩) : EE X W (.Call (.Attribute o "pop" apos) [e] [] cpos) (vBd dpopD fo fe) := by
  refine ⟨fun pins s σ H Q I h => ?_⟩
  obtain ⟨g, env, st, os, hv, hos, hS, h⟩ := h
  refine (pe_dpop1 ho he m).run pins s σ H Q I ⟨g, env, st, os, hv, hos, hS, (Post.bind h).imp fun x H1 q => ?_⟩
  obtain ⟨g1, od, st1, s1, r1, S1, h1⟩ := q
  split at h1
  · next hl =>
    obtain ⟨a, rfl, hd⟩ := S1.isD r1 hl
    refine ⟨a, rfl, hd, g1, env, st1, os, hv.step' hos s1, hos.step s1, S1, (Post.bind h1).imp fun y H2 q => ?_⟩
    obtain ⟨g2, d, st2, s2, r2, S2, h2⟩ := q
    unfold dpopD at h2
    split at h2
    · next n =>
      split at h2
      · next kvs hn =>
        split at h2
        · next z hk =>
          split at h2
          · next w hw =>
            obtain ⟨a', e1, hm, so⟩ := S2.cellAt (r1.ext s2.ext) hn
            cases e1
            have q := key_rep S2 r2 hk
            have q : y = kV z := q
            subst q
            cases so with
            | @od _ _ _ ho h3 rr hd nd =>
              cases ho with
              | dK zs =>
                obtain ⟨v, l, rv⟩ := (rr.getK (x := z)).1 w hw
                obtain ⟨S3, s3⟩ := S2.wrC (o := .dK (dropK zs z)) hm (.od upd_same rr.dropK_ (show HO.isD false (.dK _) from trivial) (nodup_drop nd).1)
                exact ⟨zs, z, v, h3, rfl, l, h2 v g2 _ s3 rv S3⟩
              | _ => exact (hd : False).elim
          · exact h2.elim
        · exact h2.elim
      · exact h2.elim
    · exact h2.elim
  · exact h1.elim
/-- o.get(k, x) -/
def getD2 : D → D → D → Store → Res D := fun o y z st => match dictOf st o, dkOf y with
  | some kvs, some k => match kindOf st o kvs with
    | some t => if k.isT = t then .ok ((lkD kvs k).getD z) st else .stuck
    | none => .stuck
  | _, _ => .stuck
theorem SOk.dget2 {K : PySem.W.Frag} {mg : Str → Option Value} {g : G} {st : Store} {H : Hp} (S : SOk K mg g st H) {o y : D} {vo vy : V} {kvs : List (DK × D)} {k : DK} {t : Bool} (ro : Rep K mg g o vo) (ry : Rep K mg g y vy) (h1 : dictOf st o = some kvs) (h2 : dkOf y = some k) (h3 : kindOf st o kvs = some t) (h4 : k.isT = t) :
    ∃ a ov, vo = .ref a ∧ DGet H a vy ov ∧ (∀ d, lkD kvs k = some d → ∃ v, ov = some v ∧ Rep K mg g d v) ∧ (lkD kvs k = none → ov = none) := by
  obtain ⟨a, u, rfl, w1, w2⟩ := S.dictAt ro h1
  have hu : HO.isD k.isT u := by
    cases o with
    | ref n =>
      have h3 : (match st[n]? with | some (.cell (.od t _)) => some t | _ => none) = some t := h3
      split at h3
      · next t' kv2 hs =>
        cases h3
        obtain ⟨a', e1, q1, q2⟩ := S.cellAt ro hs
        cases e1
        cases q2 with
        | od q3 rd hd _ =>
          rw [h4]
          rcases w1 with w1 | ⟨ob, w1⟩
          · rw [q3] at w1; cases w1; exact hd
          · rw [q3] at w1; cases w1; cases rd
      · cases h3
    | dct kv2 =>
      have e : kv2 = kvs := Option.some.inj h1
      subst e
      cases kv2 with
      | nil => cases h3
      | cons p r =>
        obtain ⟨k0, d0⟩ := p
        have h3 : some k0.isT = some t := h3
        cases h3
        rw [h4]
        cases w2 with
        | consK _ _ => trivial
        | consT _ _ => trivial
    | _ => cases h1
  have q := key_rep S ry h2
  cases k with
  | k z =>
    have q : vy = kV z := q
    subst q
    cases u with
    | dK zs => exact ⟨a, _, rfl, .inl ⟨zs, z, w1, rfl, rfl⟩, (w2.getK (x := z)).1, (w2.getK (x := z)).2⟩
    | _ => exact (hu : False).elim
  | t zs =>
    obtain ⟨b, rfl, hb⟩ := q
    cases u with
    | dT ws => exact ⟨a, _, rfl, .inr ⟨ws, zs, b, w1, rfl, hb, rfl⟩, (w2.getT (x := zs)).1, (w2.getT (x := zs)).2⟩
    | _ => exact (hu : False).elim
def vGet2 (fo fe fe2 : En → Store → Res D) : En → Store → Res D := fun env st => (fo env st).bind fun o st => if isDR st o = true then (fe env st).bind fun y st => (fe2 env st).bind fun z st => getD2 o y z st else .stuck
theorem e_get2 {k : Nat} (hr : Rm k X.A) (ho : EE X W o fo) (he : EE X W e fe) (he2 : EE X W e2 fe2) (m : M2 X o "get" apos e e2 cpos := by exact ⟨rfl, rfl, rfl, rfl⟩) : EE X W (.Call (.Attribute o "get" apos) [e, e2] [] cpos) (vGet2 fo fe fe2) := by
  refine ⟨fun pins s σ H Q I h => ?_⟩
  obtain ⟨g, env, st, os, hv, hos, hS, h⟩ := h
  refine (pe_dget2 (by have := hr.room.un; omega) ho he he2 m).run pins s σ H Q I ⟨g, env, st, os, hv, hos, hS, (Post.bind h).imp fun x H1 q => ?_⟩
  obtain ⟨g1, od, st1, s1, r1, S1, h1⟩ := q
  split at h1
  · next hl =>
    obtain ⟨a, rfl, hd⟩ := S1.isD r1 hl
    refine ⟨a, rfl, hd, g1, env, st1, os, hv.step' hos s1, hos.step s1, S1, (Post.bind h1).imp fun y H2 q => ?_⟩
    obtain ⟨g2, d, st2, s2, r2, S2, h2⟩ := q
    refine ⟨g2, env, st2, os, (hv.step' hos s1).step' (hos.step s1) s2, (hos.step s1).step s2, S2, (Post.bind h2).imp fun z H3 q => ?_⟩
    obtain ⟨g3, d3, st3, s3, r3, S3, h3⟩ := q
    unfold getD2 at h3
    split at h3
    · next kvs k e1 e2 =>
      split at h3
      · next t e3 =>
        split at h3
        · next e4 =>
          obtain ⟨a', ov, e5, w1, w2, w3⟩ := S3.dget2 ((r1.ext s2.ext).ext s3.ext) (r2.ext s3.ext) e1 e2 e3 e4
          cases e5
          refine ⟨ov, w1, ?_⟩
          cases e6 : lkD kvs k with
          | none => rw [w3 e6]; rw [e6] at h3; exact h3.here r3 S3
          | some w => obtain ⟨v, e7, rv⟩ := w2 w e6; rw [e7]; rw [e6] at h3; exact h3.here rv S3
        · exact h3.elim
      · exact h3.elim
    · exact h3.elim
  · exact h1.elim
/-! ### displays -/
def dnew (t : Bool) : En → Store → Res Slot := fun _ st => .ok (.od t []) st
theorem s_dnewK : SE X W (.Dict [] [] pos) (dnew false) := by
  refine ⟨fun pins s σ H Q I h => ?_⟩
  obtain ⟨g, env, st, os, hv, hos, hS, h⟩ := h
  refine pe_dnewK.run pins s σ H Q I fun q hq => ?_
  obtain ⟨S', s', o'⟩ := hS.newO (o := .dK []) hq
  exact h _ _ _ _ s' o' (.od upd_same .nilK trivial List.nodup_nil) S'
theorem s_dnewT : SE X W (.Dict [] [] pos) (dnew true) := by
  refine ⟨fun pins s σ H Q I h => ?_⟩
  obtain ⟨g, env, st, os, hv, hos, hS, h⟩ := h
  refine pe_dnewT.run pins s σ H Q I fun q hq => ?_
  obtain ⟨S', s', o'⟩ := hS.newO (o := .dT []) hq
  exact h _ _ _ _ s' o' (.od upd_same .nilT trivial List.nodup_nil) S'
/-! ### whole numbers of a row -/
def rowOf (st : Store) : D → Option (List D)
  | .lst ds => some ds
  | .ref n => match st[n]? with
    | some (.cell (.ol ds)) => some ds
    | _ => none
  | _ => none
theorem SOk.rowAt {K : PySem.W.Frag} {mg : Str → Option Value} {g : G} {st : Store} {H : Hp} (S : SOk K mg g st H) {x : D} {v : V} {ds : List D} (r : Rep K mg g x v) (e : rowOf st x = some ds) : ∃ a vs, v = .ref a ∧ SqL K H a vs ∧ RepL K mg g ds vs := by
  cases x with
  | lst ds' =>
    cases e
    cases r with
    | lst h rl => exact ⟨_, _, rfl, SqL.of (S.kp _ _ h), rl⟩
  | ref n =>
    have e : (match st[n]? with | some (.cell (.ol ds)) => some ds | _ => none) = some ds := e
    split at e
    · next ds2 e2 =>
      cases e
      obtain ⟨a, rfl, h1, h2⟩ := S.cellAt r e2
      cases h2 with
      | ol h3 rl => exact ⟨_, _, rfl, SqL.of h3, rl⟩
    · cases e
  | _ => cases e
def maxI : List Int → Int
  | [] => 0
  | n :: ns => ns.foldl (fun a b => if b > a then b else a) n
def minI : List Int → Int
  | [] => 0
  | n :: ns => ns.foldl (fun a b => if b < a then b else a) n
theorem fold_max (ns : List Int) : ∀ n : Int, n ≤ ns.foldl (fun a b => if b > a then b else a) n ∧ (∀ y ∈ ns, y ≤ ns.foldl (fun a b => if b > a then b else a) n) ∧ (ns.foldl (fun a b => if b > a then b else a) n = n ∨ ns.foldl (fun a b => if b > a then b else a) n ∈ ns) := by
  induction ns with
  | nil => intro n; exact ⟨Int.le_refl _, fun y h => (nomatch h), .inl rfl⟩
  | cons m ns ih =>
    intro n
    obtain ⟨h1, h2, h3⟩ := ih (if m > n then m else n)
    have z : n ≤ (if m > n then m else n) ∧ m ≤ (if m > n then m else n) := by split <;> omega
    simp only [List.foldl_cons]
    refine ⟨Int.le_trans z.1 h1, fun y hy => ?_, ?_⟩
    · rcases List.mem_cons.mp hy with rfl | hy
      · exact Int.le_trans z.2 h1
      · exact h2 y hy
    · rcases h3 with h3 | h3
      · rw [h3]
        split
        · exact .inr List.mem_cons_self
        · exact .inl rfl
      · exact .inr (List.mem_cons_of_mem _ h3)
theorem fold_min (ns : List Int) : ∀ n : Int, ns.foldl (fun a b => if b < a then b else a) n ≤ n ∧ (∀ y ∈ ns, ns.foldl (fun a b => if b < a then b else a) n ≤ y) ∧ (ns.foldl (fun a b => if b < a then b else a) n = n ∨ ns.foldl (fun a b => if b < a then b else a) n ∈ ns) := by
  induction ns with
  | nil => intro n; exact ⟨Int.le_refl _, fun y h => (nomatch h), .inl rfl⟩
  | cons m ns ih =>
    intro n
    obtain ⟨h1, h2, h3⟩ := ih (if m < n then m else n)
    have z : (if m < n then m else n) ≤ n ∧ (if m < n then m else n) ≤ m := by split <;> omega
    simp only [List.foldl_cons]
    refine ⟨Int.le_trans h1 z.1, fun y hy => ?_, ?_⟩
    · rcases List.mem_cons.mp hy with rfl | hy
      · exact Int.le_trans h1 z.2
      · exact h2 y hy
    · rcases h3 with h3 | h3
      · rw [h3]
        split
        · exact .inr List.mem_cons_self
        · exact .inl rfl
      · exact .inr (List.mem_cons_of_mem _ h3)
theorem maxI_mem {ns : List Int} (h : 0 < ns.length) : maxI ns ∈ ns ∧ ∀ y ∈ ns, y ≤ maxI ns := by
  cases ns with
  | nil => cases h
  | cons n ns =>
    obtain ⟨h1, h2, h3⟩ := fold_max ns n
    refine ⟨h3.elim (fun e => by show ns.foldl _ n ∈ n :: ns; rw [e]; exact List.mem_cons_self) (List.mem_cons_of_mem _), fun y hy => ?_⟩
    rcases List.mem_cons.mp hy with rfl | hy
    · exact h1
    · exact h2 y hy
theorem minI_mem {ns : List Int} (h : 0 < ns.length) : minI ns ∈ ns ∧ ∀ y ∈ ns, minI ns ≤ y := by
  cases ns with
  | nil => cases h
  | cons n ns =>
    obtain ⟨h1, h2, h3⟩ := fold_min ns n
    refine ⟨h3.elim (fun e => by show ns.foldl _ n ∈ n :: ns; rw [e]; exact List.mem_cons_self) (List.mem_cons_of_mem _), fun y hy => ?_⟩
    rcases List.mem_cons.mp hy with rfl | hy
    · exact h1
    · exact h2 y hy
def maxL : List D → Store → Res D := fun xs st => match xs with
  | [x] => match (rowOf st x).bind intsOf with
    | some ns => if 0 < ns.length then .ok (.int (maxI ns)) st else .stuck
    | none => .stuck
  | _ => .stuck
def minL : List D → Store → Res D := fun xs st => match xs with
  | [x] => match (rowOf st x).bind intsOf with
    | some ns => if 0 < ns.length then .ok (.int (minI ns)) st else .stuck
    | none => .stuck
  | _ => .stuck
def sumD : List D → Store → Res D := fun xs st => match xs with
  | [x] => match (rowOf st x).bind intsOf with
    | some ns => .ok (.int ns.sum) st
    | none => .stuck
  | _ => .stuck
theorem SOk.intsAt {K : PySem.W.Frag} {mg : Str → Option Value} {g : G} {st : Store} {H : Hp} (S : SOk K mg g st H) {x : D} {v : V} {ns : List Int} (r : Rep K mg g x v) (e : (rowOf st x).bind intsOf = some ns) : ∃ a, v = .ref a ∧ SqL K H a (ns.map V.int) := by
  cases h : rowOf st x with
  | none => rw [h] at e; cases e
  | some ds =>
    rw [h] at e
    obtain ⟨a, vs, rfl, h1, rl⟩ := S.rowAt r h
    rw [intsOf_rep rl e] at h1
    exact ⟨a, rfl, h1⟩
theorem b_maxL (hc : X.calm = true) : OpL X (.builtin "max") maxL := fun W pins s σ H g st xs vs us Q I S r ru q => by
  unfold maxL at q
  split at q
  · obtain ⟨v, rfl, rv⟩ := r.one
    split at q
    · next ns e =>
      split at q
      · next hz =>
        obtain ⟨a, rfl, h1⟩ := S.intsAt rv e
        refine cr_max hc pins s σ H _ us Q I ru ⟨a, ns, rfl, h1, hz, fun m hm hle => ?_⟩
        have e2 : m = maxI ns := Int.le_antisymm ((maxI_mem hz).2 m hm) (hle _ (maxI_mem hz).1)
        subst e2
        exact q.here (.int _) S
      · exact q.elim
    · exact q.elim
  · exact q.elim
theorem b_minL (hc : X.calm = true) : OpL X (.builtin "min") minL := fun W pins s σ H g st xs vs us Q I S r ru q => by
  unfold minL at q
  split at q
  · obtain ⟨v, rfl, rv⟩ := r.one
    split at q
    · next ns e =>
      split at q
      · next hz =>
        obtain ⟨a, rfl, h1⟩ := S.intsAt rv e
        refine cr_min hc pins s σ H _ us Q I ru ⟨a, ns, rfl, h1, hz, fun m hm hle => ?_⟩
        have e2 : m = minI ns := Int.le_antisymm (hle _ (minI_mem hz).1) ((minI_mem hz).2 m hm)
        subst e2
        exact q.here (.int _) S
      · exact q.elim
    · exact q.elim
  · exact q.elim
theorem b_sum (hc : X.calm = true) : OpL X (.builtin "sum") sumD := fun W pins s σ H g st xs vs us Q I S r ru q => by
  unfold sumD at q
  split at q
  · obtain ⟨v, rfl, rv⟩ := r.one
    split at q
    · next ns e =>
      obtain ⟨a, rfl, h1⟩ := S.intsAt rv e
      exact cr_sum hc pins s σ H _ us Q I ru ⟨a, ns, rfl, h1, q.here (.int _) S⟩
    · exact q.elim
  · exact q.elim
def bolsOf : List D → Option (List Bool)
  | [] => some []
  | .bl b :: r => (bolsOf r).map (b :: ·)
  | _ :: _ => none
theorem bolsOf_rep {g : G} {K : PySem.W.Frag} {mg : Str → Option Value} : ∀ {ds : List D} {vs : List V} {bs : List Bool}, RepL K mg g ds vs → bolsOf ds = some bs → vs = bs.map V.bl
  | _, _, _, .nil, e => by cases e; rfl
  | d :: ds, _, ns, .cons r t, e => by
    cases d with
    | bl i =>
      have e' : (bolsOf ds).map (i :: ·) = some ns := e
      cases h : bolsOf ds with
      | none => rw [h] at e'; cases e'
      | some ms => rw [h] at e'; cases e'; cases r; rw [bolsOf_rep t h]; rfl
    | _ => cases e
def allD : List D → Store → Res D := fun xs st => match xs with
  | [x] => match (rowOf st x).bind bolsOf with
    | some bs => .ok (.bl (bs.all id)) st
    | none => .stuck
  | _ => .stuck
def anyD : List D → Store → Res D := fun xs st => match xs with
  | [x] => match (rowOf st x).bind bolsOf with
    | some bs => .ok (.bl (bs.any id)) st
    | none => .stuck
  | _ => .stuck
theorem SOk.bolsAt {K : PySem.W.Frag} {mg : Str → Option Value} {g : G} {st : Store} {H : Hp} (S : SOk K mg g st H) {x : D} {v : V} {ns : List Bool} (r : Rep K mg g x v) (e : (rowOf st x).bind bolsOf = some ns) : ∃ a, v = .ref a ∧ SqL K H a (ns.map V.bl) := by
  cases h : rowOf st x with
  | none => rw [h] at e; cases e
  | some ds =>
    rw [h] at e
    obtain ⟨a, vs, rfl, h1, rl⟩ := S.rowAt r h
    rw [bolsOf_rep rl e] at h1
    exact ⟨a, rfl, h1⟩
theorem b_all (hc : X.calm = true) : OpL X (.builtin "all") allD := fun W pins s σ H g st xs vs us Q I S r ru q => by
  unfold allD at q
  split at q
  · obtain ⟨v, rfl, rv⟩ := r.one
    split at q
    · next ns e =>
      obtain ⟨a, rfl, h1⟩ := S.bolsAt rv e
      exact cr_all hc pins s σ H _ us Q I ru ⟨a, ns, rfl, h1, q.here (.bl _) S⟩
    · exact q.elim
  · exact q.elim
theorem b_any (hc : X.calm = true) : OpL X (.builtin "any") anyD := fun W pins s σ H g st xs vs us Q I S r ru q => by
  unfold anyD at q
  split at q
  · obtain ⟨v, rfl, rv⟩ := r.one
    split at q
    · next ns e =>
      obtain ⟨a, rfl, h1⟩ := S.bolsAt rv e
      exact cr_any hc pins s σ H _ us Q I ru ⟨a, ns, rfl, h1, q.here (.bl _) S⟩
    · exact q.elim
  · exact q.elim
/-! ### o.f += n -/
def augF (tb : List Str) (f : Str) (j : Int) (o : D) (st : Store) : Option Store := match fldF tb f o st with
  | .ok (.int i) _ => setF tb f o (.int (i + j)) st
  | _ => none
def sFldA (tb : List Str) (f : Str) (j : Int) (fo : En → Store → Res D) : En → Store → ResS := fun env st => (fo env st).go env fun o st => match augF tb f j o st with
  | some st => .nx env st
  | none => .stuck
theorem st_fldaug {f : Str} {tb : List Str} {tpos cpos : Pos} {j : Int} {jj : Nat} (ho : EE X W o fo) (hT : FldTab X.K X.mg f tb) :
    ST X W (.AugAssign (.Attribute o f tpos) .Add (.Constant (.int j) jj cpos) pos) (sFldA tb f j fo) := by
  refine ⟨fun pins s σ H D I h => ?_⟩
  obtain ⟨g, env, st, os, hv, hos, hS, h⟩ := h
  refine (ps_fldaug ho pe_int in_add).run pins s σ H D I ⟨g, env, st, os, hv, hos, hS, (PostSt.go hv hos h).imp fun x H1 q => ?_⟩
  obtain ⟨g1, od, st1, s1, ro, S1, e1, o1, h1⟩ := q
  split at h1
  · next st4 haug =>
    unfold augF at haug
    split at haug
    · next i st2 hq =>
      have hst : ∃ n C fs, od = .ref n ∧ st1[n]? = some (.ins C fs) ∧ C ∈ tb ∧ lkF fs f = some (.int i) := by
        unfold fldF at hq
        split at hq
        · next n =>
          split at hq
          · next C fs hn =>
            split at hq
            · next hm =>
              split at hq
              · next d' hd => cases hq; exact ⟨n, C, fs, rfl, hn, hm, hd⟩
              · cases hq
            · cases hq
          · cases hq
        · cases hq
      obtain ⟨n, C, fs, rfl, hn, hm, hd⟩ := hst
      obtain ⟨a, dx, c, zs, rfl, q1, q2, q3, q4, q5, q6⟩ := S1.objI ro hn
      obtain ⟨c', mc, cl, na⟩ := hT C hm
      rw [q2] at mc
      cases mc
      obtain ⟨v, w1, w2⟩ := (q6.get (f := f)).1 _ hd
      cases w2
      obtain ⟨a', c2, dx2, zs2, e3, z1, z2, z3, z4, z5, z6⟩ := setF_ok S1 ro (.int (i + j)) hT haug
      cases e3
      rw [q3] at z1
      cases z1
      exact ⟨a, c, dx, zs, _, rfl, q3, cl, na, w1, i, j, rfl, rfl, dx, zs, q3, z4, h1 σ g1 _ os (z6.frame os) (e1.step' o1 z6) (o1.step z6) z5⟩
    · cases haug
  · exact (h1 : False).elim
end
end EV

set_option Elab.async false
set_option linter.all false
set_option autoImplicit false
set_option maxRecDepth 100000
set_option maxHeartbeats 400000
/-! a list of the store that is written no more -/
namespace EV
open PySem PySem.Spec PyProof.Rows L2
theorem fpOf_kill : ∀ {m : List (Addr × List Addr)} {n : Nat} {p : Addr × List Addr}, m[n]? = some p → List.Sublist (fpOf (m.set n (p.1, []))) (fpOf m) ∧ ((fpOf m).Nodup → ∀ x ∈ p.2, x ∉ fpOf (m.set n (p.1, [])))
  | [], _, _, e => by simp at e
  | q :: m, 0, p, e => by
    have e : q = p := by simpa using e
    subst e
    rw [List.set_cons_zero, fpOf_cons, fpOf_cons]
    refine ⟨List.sublist_append_right _ _, fun nd x hx hm => ?_⟩
    rw [List.nodup_append] at nd
    exact nd.2.2 x hx x (by simpa using hm) rfl
  | q :: m, n + 1, p, e => by
    have e : m[n]? = some p := by simpa using e
    obtain ⟨h1, h2⟩ := fpOf_kill e
    rw [List.set_cons_succ, fpOf_cons, fpOf_cons]
    refine ⟨h1.append_left _, fun nd x hx hm => ?_⟩
    rw [List.nodup_append] at nd
    rcases List.mem_append.mp hm with hm | hm
    · refine nd.2.2 x hm x ?_ rfl
      unfold fpOf
      exact List.mem_flatMap.mpr ⟨p, List.mem_of_getElem? e, hx⟩
    · exact h2 nd.2.1 x hx hm
theorem rs_kill {m : List (Addr × List Addr)} {n : Nat} {p : Addr × List Addr} (e : m[n]? = some p) : (m.set n (p.1, [])).map (·.1) = m.map (·.1) := by
  rw [List.map_set]
  obtain ⟨hl, e⟩ := List.getElem?_eq_some_iff.mp e
  have : p.1 = (m.map (·.1))[n]'(by rw [List.length_map]; exact hl) := by rw [List.getElem_map, e]
  show (m.map (·.1)).set n p.1 = _
  conv => lhs; rw [this]
  exact List.set_getElem_self _
section
variable {K : PySem.W.Frag} {mg : Str → Option Value}
theorem StOk.kill {g g' : G} {H : Hp} (x : Ext g g') : ∀ {st : Store} {m : List (Addr × List Addr)} {n : Nat} {p : Addr × List Addr}, StOk K mg g H st m → m[n]? = some p → StOk K mg g' H (st.set n .gone) (m.set n (p.1, []))
  | _, _, _, _, .nil, e => by simp at e
  | _, _, 0, p, .cons h t, e => .cons .gone (t.step x fun _ _ => rfl)
  | _, _, n + 1, p, .cons h t, e => .cons (h.step x fun _ _ => rfl) (StOk.kill x t (by simpa using e))
def G.lock (g : G) (n : Nat) (a : Addr) (o : HO) : G := ⟨upd g.kp a o, g.m.set n (a, [])⟩
theorem SOk.lock {g : G} {st : Store} {H : Hp} {n : Nat} {a : Addr} {o : HO} (S : SOk K mg g st H) (hm : g.m[n]? = some (a, [a])) (ha : H a = some o) :
    SOk K mg (g.lock n a o) (st.set n .gone) H ∧ Step g H [] (g.lock n a o) H [] := by
  have hf : a ∈ g.fp := List.mem_flatMap.mpr ⟨(a, [a]), List.mem_of_getElem? hm, by simp⟩
  have hk := S.fr a hf
  obtain ⟨k1, k2⟩ := fpOf_kill hm
  have x : Ext g (g.lock n a o) := ⟨fun b u h => by show upd g.kp a o b = _; rw [upd_ne (ne_of_none h hk)]; exact h, fun i b h => by
    show ((g.m.set n (a, [])).map (·.1))[i]? = _
    rw [rs_kill hm]
    exact h⟩
  refine ⟨⟨fun b u h => ?_, S.nd.sublist k1, fun b hb => ?_, fun b hb => S.th b (k1.subset hb), S.ob.kill x hm⟩, ⟨x, fun _ _ _ _ => rfl, fun _ h => h, fun b hb => .inl (k1.subset hb), fun b h => ?_, fun _ h => nomatch h⟩⟩
  · have h : upd g.kp a o b = some u := h
    by_cases e : b = a
    · subst e; rw [upd_same] at h; rw [ha]; exact h
    · rw [upd_ne e] at h; exact S.kp b u h
  · have hb : b ∈ fpOf (g.m.set n (a, [])) := hb
    show upd g.kp a o b = none
    rw [upd_ne (by rintro rfl; exact k2 S.nd b (by simp) hb)]
    exact S.fr b (k1.subset hb)
  · have h : upd g.kp a o b ≠ none := h
    by_cases e : b = a
    · subst e; exact .inr (.inr (.inr hf))
    · rw [upd_ne e] at h; exact .inl h
end
def lockR : D → Store → Res D := fun d st => match d with
  | .ref n => match st[n]? with
    | some (.cell (.ol ds)) => .ok (.lst ds) (st.set n .gone)
    | _ => .ok d st
  | _ => .ok d st
def vLock (f : En → Store → Res D) : En → Store → Res D := fun env st => (f env st).bind lockR
theorem Post.lock {K : PySem.W.Frag} {mg : Str → Option Value} {W : Wi} {g : G} {H : Hp} {σ : L2.St} {r : Res D} {Q : VK} (h : Post K mg (Rep K mg) W g H σ (r.bind lockR) Q) : Post K mg (Rep K mg) W g H σ r Q := by
  cases r with
  | stuck => exact h
  | er x st => exact h
  | ok d st =>
    have h : Post K mg (Rep K mg) W g H σ (lockR d st) Q := h
    unfold lockR at h
    split at h
    · next n =>
      split at h
      · next ds e =>
        intro v g1 H1 s1 rv S1
        obtain ⟨a, vs, rfl, hm, ha, rl⟩ := S1.objL rv e
        obtain ⟨S2, s2⟩ := S1.lock hm ha
        exact h _ _ _ (s1.trans s2) (.lst (show upd g1.kp a (.lst vs) a = _ from upd_same) (rl.ext s2.ext)) S2
      · exact h
    · exact h
section
variable {X : Cx} {W : Wi} {e : Expr} {fe : En → Store → Res D}
theorem e_lock (h : EE X W e fe) : EE X W e (vLock fe) := by
  refine ⟨fun pins s σ H Q I hq => ?_⟩
  obtain ⟨g, env, st, os, he, ho, hs, hq⟩ := hq
  exact h.run pins s σ H Q I ⟨g, env, st, os, he, ho, hs, Post.lock hq⟩
end
end EV

set_option Elab.async false
set_option linter.all false
set_option autoImplicit false
set_option maxRecDepth 100000
set_option maxHeartbeats 400000
/-! the calculus for objects of the store -/
namespace EV
open PySem PySem.Spec PyProof.Rows L2
variable {E : ErP} {Ee : ErS}
section
variable {st : Store} {env : En} {P : D → Store → Prop} {PS : Slot → Store → Prop} {PL : List D → Store → Prop} {nx br ct : NX} {rt : RT} {n : Nat} {C m f x : Str} {fs fs' : List (Str × D)} {d e : D} {o : Option D} {ds : List D} {fo fe fe2 : En → Store → Res D} {fa : En → Store → Res (List D)} {tb : DefTab} {tc : List Str} {ps : List Str} {F : List D → Store → Res D} {t u : D → En → Store → ResS} {us : List D → En → Store → ResS} {i j : Int}
theorem lkF_nil : lkF [] f = none := rfl
theorem lkF_hd : lkF ((f, d) :: fs) f = some d := by
  unfold lkF
  rw [if_pos (by simp)]
theorem lkF_tl (h : (x == f) = false) (q : lkF fs f = o) : lkF ((x, d) :: fs) f = o := by
  unfold lkF
  rw [if_neg (by rw [h]; decide)]
  exact q
theorem putA_nil : putA f d [] = [(f, d)] := rfl
theorem putA_hd : putA f d ((f, e) :: fs) = (f, d) :: fs := by
  unfold putA
  rw [if_pos (by simp)]
theorem putA_tl (h : (x == f) = false) (q : putA f d fs = fs') : putA f d ((x, e) :: fs) = (x, e) :: fs' := by
  conv => lhs; unfold putA
  rw [if_neg (by rw [h]; decide), q]
/-- the attributes behind a store, step by step -/
def Ns (fs : List (Str × D)) (Q : List (Str × D) → Prop) : Prop := Q fs
theorem ns_nil {Q : List (Str × D) → Prop} (q : Q [(f, d)]) : Ns (putA f d []) Q := q
theorem ns_hd {Q : List (Str × D) → Prop} (q : Q ((f, d) :: fs)) : Ns (putA f d ((f, e) :: fs)) Q := by unfold Ns; rw [putA_hd]; exact q
theorem ns_tl {Q : List (Str × D) → Prop} (h : (x == f) = false) (q : Ns (putA f d fs) fun r => Q ((x, e) :: r)) : Ns (putA f d ((x, e) :: fs)) Q := by unfold Ns; rw [putA_tl h rfl]; exact q
theorem go_vMeth (q : (fo env st).holds E fun o st => (methD tb m fa env o st).holds E P) : (vMeth tb m fo fa env st).holds E P := by
  unfold vMeth
  rw [Res.holds_bind]
  exact q
theorem go_methD (h : st[n]? = some (.ins C fs)) (hl : lkF fs m = none) (ht : tabF tb C = some (ps, F)) (q : (fa env st).holds E fun ds st => ds.length + 1 = ps.length ∧ (F (.ref n :: ds) st).holds E P) : (methD tb m fa env (.ref n) st).holds E P := by
  unfold methD
  simp only [h, hl, ht]
  rw [Res.holds_bind]
  exact q.imp fun ds st h => go_fnN (by rw [List.length_cons]; exact h.1) h.2
theorem go_mlen {Q : Prop} (h : ds.length + 1 = ps.length) (q : Q) : ds.length + 1 = ps.length ∧ Q := ⟨h, q⟩
theorem go_fld (h : st[n]? = some (.ins C fs)) (hm : C ∈ tc) (hl : lkF fs f = some d) (q : P d st) : (fldF tc f (.ref n) st).holds E P := by
  unfold fldF
  simp only [h, if_pos hm, hl]
  exact q
theorem go_gFld (q : (fo env st).holds (atE Ee env) fun o st => ∃ st', setF tc f o d st = some st' ∧ nx env st') : (gFld tc f fo d env st).runs Ee nx rt br ct := by
  unfold gFld
  refine go_go (q.imp fun o st h => ?_)
  obtain ⟨st', e, h⟩ := h
  rw [e]
  exact h
theorem go_setF {Q : Store → Prop} (h : st[n]? = some (.ins C fs)) (hm : C ∈ tc) (hz : fs.length < 1000) (q : Ns (putA f d fs) fun fs' => Q (st.set n (.ins C fs'))) : ∃ st', setF tc f (.ref n) d st = some st' ∧ Q st' := by
  refine ⟨_, ?_, q⟩
  unfold setF
  simp only [h, if_pos (And.intro hm hz)]
theorem go_gTp {k : Nat} (hl : ds.length = k) (q : (us ds env st).runs Ee nx rt br ct) : (gTp k us (.tup ds) env st).runs Ee nx rt br ct := by
  unfold gTp
  simp only [if_pos hl]
  exact q
theorem go_gsC (q : (t d env st).runs Ee (fun env st => (us ds env st).runs Ee nx noR no no) noR no no) : (gsC t us (d :: ds) env st).runs Ee nx noR no no := by
  unfold gsC
  revert q
  show (t d env st).runs Ee _ _ _ _ → (match t d env st with | .nx env st => us ds env st | .er e env st => .er e env st | _ => .stuck : ResS).runs Ee _ _ _ _
  generalize t d env st = r
  intro q
  cases r with
  | nx env1 st1 => exact q
  | er e env1 st1 => exact q
  | _ => exact (q : False).elim
theorem go_gsN (q : nx env st) : (gsN [] env st).runs Ee nx rt br ct := q
theorem go_gN {k : Nat} (q : nx (env.set k (.vl d)) st) : (gN k d env st).runs Ee nx rt br ct := q
theorem go_fldA (q : (fo env st).holds (atE Ee env) fun o st => ∃ st', augF tc f j o st = some st' ∧ nx env st') : (sFldA tc f j fo env st).runs Ee nx rt br ct := by
  unfold sFldA
  refine go_go (q.imp fun o st h => ?_)
  obtain ⟨st', e, h⟩ := h
  rw [e]
  exact h
theorem go_augF {Q : Store → Prop} (h : st[n]? = some (.ins C fs)) (hm : C ∈ tc) (hl : lkF fs f = some (.int i)) (hz : fs.length < 1000) (q : Ns (putA f (.int (i + j)) fs) fun fs' => Q (st.set n (.ins C fs'))) : ∃ st', augF tc f j (.ref n) st = some st' ∧ Q st' := by
  refine ⟨_, ?_, q⟩
  unfold augF fldF setF
  simp only [h, if_pos hm, hl, if_pos (And.intro hm hz)]
theorem go_makeD {k : Nat} (hl : ds.length + 1 = k) (q : (F (.ref st.length :: ds) (st ++ [.ins C []])).holds E fun d st' => d = .non ∧ P (.ref st.length) st') : (makeD C k F ds st).holds E P := by
  unfold makeD
  rw [Res.holds_bind]
  exact go_fnN (by rw [List.length_cons]; exact hl) (q.imp fun d st' h => by rw [h.1]; exact h.2)
theorem go_vBm {G : D → D → Store → Res D} (q : (fo env st).holds E fun o st => isLR st o = true ∧ (fe env st).holds E fun d st => (G o d st).holds E P) : (vBm G fo fe env st).holds E P := by
  unfold vBm
  rw [Res.holds_bind]
  refine q.imp fun o st h => ?_
  rw [if_pos h.1, Res.holds_bind]
  exact h.2
theorem go_isLR {Q : Prop} (h : st[n]? = some (.cell (.ol ds))) (q : Q) : isLR st (.ref n) = true ∧ Q := ⟨by unfold isLR; simp only [h], q⟩
theorem go_appD (h : st[n]? = some (.cell (.ol ds))) (hz : ds.length < 100000) (q : P .non (st.set n (.cell (.ol (ds ++ [d]))))) : (appD (.ref n) d st).holds E P := by
  unfold appD appR
  simp only [h, if_pos (Nat.lt_of_lt_of_le hz line100000)]
  exact q
theorem go_popD (h : st[n]? = some (.cell (.ol ds))) (hi : 0 ≤ i ∧ i < ds.length ∧ ds.length ≤ 1000000) (q : ∀ x, ds[i.toNat]? = some x → P x (st.set n (.cell (.ol (ds.eraseIdx i.toNat))))) : (popD (.ref n) (.int i) st).holds E P := by
  unfold popD
  have hlt : i.toNat < ds.length := by omega
  simp only [h, if_pos hi, List.getElem?_eq_getElem hlt]
  exact q _ (List.getElem?_eq_getElem hlt)
theorem go_vBd {G : D → D → Store → Res D} (q : (fo env st).holds E fun o st => isDR st o = true ∧ (fe env st).holds E fun d st => (G o d st).holds E P) : (vBd G fo fe env st).holds E P := by
  unfold vBd
  rw [Res.holds_bind]
  refine q.imp fun o st h => ?_
  rw [if_pos h.1, Res.holds_bind]
  exact h.2
theorem go_isDR {Q : Prop} {kvs : List (DK × D)} {k : Bool} (h : st[n]? = some (.cell (.od k kvs))) (q : Q) : isDR st (.ref n) = true ∧ Q := ⟨by unfold isDR dictOf; simp only [h, Option.isSome_some], q⟩
theorem go_dpopD {kvs : List (DK × D)} {k : Key} (h : st[n]? = some (.cell (.od false kvs))) (hk : dkOf e = some (.k k)) (hd : lkD kvs (.k k) = some d) (q : P d (st.set n (.cell (.od false (dropD kvs (.k k)))))) : (dpopD (.ref n) e st).holds E P := by
  unfold dpopD
  simp only [h, hk, hd]
  exact q
theorem go_dnew {t : Bool} (q : PS (.od t []) st) : (dnew t env st).holds E PS := q
theorem go_toRefD {t : Bool} {kvs : List (DK × D)} (q : P (.ref st.length) (st ++ [.cell (.od t kvs)])) : (toRef (.od t kvs) st).holds E P := q
/-! is None -/
theorem go_isN1 {y : Nat} (q : P (.bl false) st) : (isD (.ref y) .non st).holds E P := q
theorem go_isN2 (q : P (.bl true) st) : (isD .non .non st).holds E P := q
theorem go_isN3 (q : P (.bl false) st) : (isD (.tup ds) .non st).holds E P := q
theorem go_isN4 (q : P (.bl false) st) : (isD (.int i) .non st).holds E P := q
theorem go_isN5 (q : P (.bl false) st) : (isD (.str x) .non st).holds E P := q
theorem go_isN6 (q : P (.bl false) st) : (isD (.lst ds) .non st).holds E P := q
theorem go_isntN1 {y : Nat} (q : P (.bl true) st) : (isntD (.ref y) .non st).holds E P := q
theorem go_isntN2 (q : P (.bl false) st) : (isntD .non .non st).holds E P := q
theorem go_isntN3 (q : P (.bl true) st) : (isntD (.tup ds) .non st).holds E P := q
theorem go_isntN4 (q : P (.bl true) st) : (isntD (.int i) .non st).holds E P := q
theorem go_isntN5 (q : P (.bl true) st) : (isntD (.str x) .non st).holds E P := q
theorem go_isntN6 (q : P (.bl true) st) : (isntD (.lst ds) .non st).holds E P := q
/-! ==, repr by what is seen -/
theorem go_eqX {x y : D} {b : Bool} (h : eqB st x y = some b) (q : P (.bl b) st) : (eqD x y st).holds E P := by
  unfold eqD
  rw [h]
  exact q
theorem go_neX {x y : D} {b : Bool} (h : eqB st x y = some b) (q : P (.bl (!b)) st) : (neD x y st).holds E P := by
  unfold neD
  rw [h]
  exact q
theorem go_lenR (h : st[n]? = some (.cell (.ol ds))) (q : P (.int ds.length) st) : (lenD [.ref n] st).holds E P := by
  unfold lenD
  simp only [h]
  exact q
theorem go_lenRD {kvs : List (DK × D)} (h : st[n]? = some (.cell (.od false kvs))) (q : P (.int kvs.length) st) : (lenD [.ref n] st).holds E P := by
  unfold lenD
  simp only [h]
  exact q
theorem go_tupR (h : st[n]? = some (.cell (.ol ds))) (q : P (.tup ds) st) : (tupOfD [.ref n] st).holds E P := by
  unfold tupOfD
  simp only [h]
  exact q
theorem go_listR (h : st[n]? = some (.cell (.ol ds))) (q : PS (.ol ds) st) : (listOf [.ref n] st).holds E PS := by
  unfold listOf
  simp only [h]
  exact q
theorem go_ixR (h : st[n]? = some (.cell (.ol ds))) (hi : atI ds i = some d) (q : P d st) : (ixD (.ref n) (.int i) st).holds E P := by
  refine go_ix ?_ q
  show (match st[n]? with | some (.cell (.ol ds)) => atI ds i | _ => none) = _
  rw [h]
  exact hi
theorem go_setRL {Q : Store → Prop} {k : Nat} (h : st[n]? = some (.cell (.ol ds))) (hi : ixN ds.length i = some k) (q : Q (st.set n (.cell (.ol (ds.set k d))))) : ∃ st', setR (.ref n) (.int i) d st = some st' ∧ Q st' := by
  refine ⟨_, ?_, q⟩
  unfold setR
  simp only [h, hi]
theorem go_setRD {Q : Store → Prop} {t : Bool} {kvs : List (DK × D)} {k : DK} (h : st[n]? = some (.cell (.od t kvs))) (hk : dkOf e = some k) (ht : k.isT = t) (hz : kvs.length < 100000) (q : Q (st.set n (.cell (.od t (putD kvs k d))))) : ∃ st', setR (.ref n) e d st = some st' ∧ Q st' := by
  refine ⟨_, ?_, q⟩
  unfold setR
  simp only [h, hk, if_pos (And.intro ht (Nat.lt_of_lt_of_le hz line100000))]
theorem go_maxL {ns : List Int} {x : D} (h : (rowOf st x).bind intsOf = some ns) (hz : 0 < ns.length) (q : P (.int (maxI ns)) st) : (maxL [x] st).holds E P := by
  unfold maxL
  simp only [h, if_pos hz]
  exact q
theorem go_minL {ns : List Int} {x : D} (h : (rowOf st x).bind intsOf = some ns) (hz : 0 < ns.length) (q : P (.int (minI ns)) st) : (minL [x] st).holds E P := by
  unfold minL
  simp only [h, if_pos hz]
  exact q
theorem go_sumD {ns : List Int} {x : D} (h : (rowOf st x).bind intsOf = some ns) (q : P (.int ns.sum) st) : (sumD [x] st).holds E P := by
  unfold sumD
  simp only [h]
  exact q
theorem go_allD {bs : List Bool} {x : D} (h : (rowOf st x).bind bolsOf = some bs) (q : P (.bl (bs.all id)) st) : (allD [x] st).holds E P := by
  unfold allD
  simp only [h]
  exact q
theorem go_anyD {bs : List Bool} {x : D} (h : (rowOf st x).bind bolsOf = some bs) (q : P (.bl (bs.any id)) st) : (anyD [x] st).holds E P := by
  unfold anyD
  simp only [h]
  exact q
end
mutual
theorem pd_rsvW (f : Nat → Option D) : ∀ (d : D) (p : PyData), d.pd = some p → rsvW f d = some d
  | .non, _, _ => by unfold rsvW; rfl
  | .bl _, _, _ => by unfold rsvW; rfl
  | .int _, _, _ => by unfold rsvW; rfl
  | .str _, _, _ => by unfold rsvW; rfl
  | .tup xs, p, e => by
    unfold D.pd at e
    unfold rsvW
    cases h : D.pds xs with
    | none => rw [h] at e; cases e
    | some ps => rw [pds_rsvW f xs ps h]; rfl
  | .lst xs, p, e => by
    unfold D.pd at e
    unfold rsvW
    cases h : D.pds xs with
    | none => rw [h] at e; cases e
    | some ps => rw [pds_rsvW f xs ps h]; rfl
  | .dct _, _, e => by unfold D.pd at e; cases e
  | .st _, _, e => by unfold D.pd at e; cases e
  | .ref _, _, e => by unfold D.pd at e; cases e
  | .fn _, _, e => by unfold D.pd at e; cases e
  | .ty _, _, e => by unfold D.pd at e; cases e
  | .scr _, _, e => by unfold D.pd at e; cases e
theorem pds_rsvW (f : Nat → Option D) : ∀ (ds : List D) (ps : List PyData), D.pds ds = some ps → rsvWs f ds = some ds
  | [], _, _ => by unfold rsvWs; rfl
  | x :: xs, ps, e => by
    unfold D.pds at e
    split at e
    · next a b ha hb =>
      unfold rsvWs
      rw [pd_rsvW f x a ha, pds_rsvW f xs b hb]
    · cases e
end
theorem pd_rsv {st : Store} {n : Nat} {d : D} {p : PyData} (e : d.pd = some p) : rsv st n d = some d := by
  cases n with
  | zero => unfold rsv; exact pd_rsvW _ d p e
  | succ n => unfold rsv; exact pd_rsvW _ d p e
theorem pdR_rsv {st : Store} {d d' : D} {p : PyData} (h : rsv st 3 d = some d') (e : d'.pd = some p) : pdR st d = some p := by
  unfold pdR
  cases q : d.pd with
  | none => rw [h]; exact e
  | some p' =>
    rw [pd_rsv q] at h
    cases h
    rw [q] at e
    exact e
section
variable {st : Store} {P : D → Store → Prop} {N n w : Nat} {d x y : D}
theorem gd_rsv (h : Gd N n w d) (hN : N ≤ 10 ^ 12) {k : Nat} : rsv st k d = some d := by
  obtain ⟨p, e, _⟩ := pl_pd hN d h.1
  exact pd_rsv e
theorem eqv_refl0 : ∀ d : PyData, d.canLay0 = true → d.hasDict = false → PyData.eqv d d = true := fun d h hd => by
  exact SeqAt.eqv_refl d (by first | exact h | exact ⟨h, hd⟩)
theorem eqB_same (hx : rsv st 3 x = some d) (hy : rsv st 3 y = some d) (g : Gd N n w d) (hN : N ≤ 10 ^ 12) (hn : n ≤ 64) : eqB st x y = some true := by
  obtain ⟨p, e, h1, h2, h3, h4, h5, h6⟩ := pl_pd hN d g.1
  have a1 := pdR_rsv hx e
  have a2 := pdR_rsv hy e
  have sh : SeqAt.shaped p = true := by
    unfold SeqAt.shaped
    rw [h3]
    simp only [Bool.true_and, decide_eq_true_eq]
    rw [h4]
    exact Nat.le_trans g.2.1 hn
  have rf : PyData.eqv p p = true := eqv_refl0 p h3 h2
  have fin : (match pdR st x, pdR st y with
    | some a, some b => if SeqAt.shaped a = true ∧ SeqAt.shaped b = true then some (PyData.eqv a b) else none
    | _, _ => none) = some true := by
    rw [a1, a2]
    simp only [sh, and_self, if_true, rf]
  unfold eqB
  split
  case h_13 => exact fin
  all_goals
    (first
      | rfl
      | (have z1 := a1; have z2 := a2; unfold pdR D.pd at z1 z2; simp only [Option.some.injEq] at z1 z2; rw [← z1] at z2; first | (cases z2; simp) | (cases z2)))
theorem go_shwR (hx : rsv st 3 x = some d) (h : Gd N n w d) (hN : N ≤ 10 ^ 12) (hn : n ≤ 64) (hw : w ≤ 1000000) (q : P (.str (shw d)) st) : (reprD [x] st).holds E P := by
  obtain ⟨p, e, h1, h2, h3, h4, h5, h6⟩ := pl_pd hN d h.1
  have hd := h.2.1
  have hw' := h.2.2
  have h20 : (2 : Nat) ^ 20 = 1048576 := by decide
  have hb := PyData.shown_fits (by decide) (by decide) h6 (show p.weight ≤ 2 ^ 20 by omega)
  show Res.holds (match pdR st x with
    | some d => if d.showable = true ∧ d.hasDict = false ∧ d.depth ≤ 64 ∧ d.shown.length ≤ sizeLine then .ok (.str d.shown) st else .stuck
    | none => .stuck) E P
  rw [pdR_rsv hx e]
  have hh : p.showable = true ∧ p.hasDict = false ∧ p.depth ≤ 64 ∧ p.shown.length ≤ sizeLine := ⟨h1, h2, by omega, hb⟩
  simp only [if_pos hh]
  unfold shw at q
  rw [e] at q
  exact q
end
theorem go_vLock {env : En} {st : Store} {P : D → Store → Prop} {fo : En → Store → Res D} (q : (fo env st).holds E fun o st => (lockR o st).holds E P) : (vLock fo env st).holds E P := by
  unfold vLock
  rw [Res.holds_bind]
  exact q
theorem go_lockR {st : Store} {P : D → Store → Prop} {n : Nat} {ds : List D} (h : st[n]? = some (.cell (.ol ds))) (q : P (.lst ds) (st.set n .gone)) : (lockR (.ref n) st).holds E P := by
  unfold lockR
  simp only [h]
  exact q
def Par2 (i j : Nat) (env : En) (ds : List D) (st : Store) (nx : NX) : Prop := match ds with
  | [a, b] => nx ((env.set i (.vl a)).set j (.vl b)) st
  | _ => False
theorem go_par {nx br ct : NX} {rt : RT} {i j : Nat} {f : En → Store → Res (List D)} {env : En} {st : Store} (q : (f env st).holds (atE Ee env) fun ds st => Par2 i j env ds st nx) : (sPar i j f env st).runs Ee nx rt br ct := by
  unfold sPar
  refine go_go (q.imp fun ds st h => ?_)
  unfold Par2 at h
  split at h
  · exact h
  · exact h.elim
theorem go_par2 {nx : NX} {i j : Nat} {env : En} {st : Store} {a b : D} (q : nx ((env.set i (.vl a)).set j (.vl b)) st) : Par2 i j env [a, b] st nx := q
mutual
theorem rsvW_pl {N : Nat} {f : Nat → Option D} : ∀ d : D, pl N d = true → rsvW f d = some d
  | .tup xs, h => by unfold pl at h; unfold rsvW; rw [rsvWs_pl xs h]; rfl
  | .lst xs, h => by unfold pl at h; unfold rsvW; rw [rsvWs_pl xs h]; rfl
  | .non, _ => by unfold rsvW; rfl
  | .bl _, _ => by unfold rsvW; rfl
  | .int _, _ => by unfold rsvW; rfl
  | .str _, _ => by unfold rsvW; rfl
  | .dct _, h => by unfold pl at h; cases h
  | .st _, h => by unfold pl at h; cases h
  | .ref _, h => by unfold pl at h; cases h
  | .fn _, h => by unfold pl at h; cases h
  | .ty _, h => by unfold pl at h; cases h
  | .scr _, h => by unfold pl at h; cases h
theorem rsvWs_pl {N : Nat} {f : Nat → Option D} : ∀ ds : List D, pls N ds = true → rsvWs f ds = some ds
  | [], _ => by unfold rsvWs; rfl
  | x :: xs, h => by
    unfold pls at h
    obtain ⟨a, b⟩ := Bool.and_eq_true_iff.mp h
    unfold rsvWs
    rw [rsvW_pl x a, rsvWs_pl xs b]
end
theorem rsv_pl {N n : Nat} {st : Store} {d : D} (h : pl N d = true) : rsv st n d = some d := by
  cases n with
  | zero => exact rsvW_pl d h
  | succ n => exact rsvW_pl d h
theorem go_eqG {st : Store} {P : D → Store → Prop} {d : D} (g : Gd (10 ^ 12) 64 1000000 d) (q : P (.bl true) st) : (eqD d d st).holds E P := go_eqX (eqB_same (rsv_pl g.1) (rsv_pl g.1) g (Nat.le_refl _) (Nat.le_refl _)) q
theorem go_neG {st : Store} {P : D → Store → Prop} {d : D} (g : Gd (10 ^ 12) 64 1000000 d) (q : P (.bl false) st) : (neD d d st).holds E P := go_neX (eqB_same (rsv_pl g.1) (rsv_pl g.1) g (Nat.le_refl _) (Nat.le_refl _)) q
theorem go_isiR {st : Store} {P : D → Store → Prop} {n : Nat} {ds : List D} (h : st[n]? = some (.cell (.ol ds))) (q : P (.bl true) st) : (isiD [.ref n, .ty "list"] st).holds E P := by
  unfold isiD tyR
  simp only [h]
  rw [if_pos (by decide)]
  exact q
/-! loops whose invariant does not tell the row of names again -/
def OffE : List Nat → En → En → Prop
  | [], e, env => env = e
  | i :: is, e, env => ∃ x, OffE is (e.set i x) env
theorem offE_self : ∀ (is : List Nat) (e : En), OffE is e e
  | [], _ => rfl
  | i :: is, e => by
    rcases Nat.lt_or_ge i e.length with h | h
    · refine ⟨e[i], ?_⟩
      rw [List.set_getElem_self]
      exact offE_self is e
    · refine ⟨.vl .non, ?_⟩
      rw [List.set_eq_of_length_le h]
      exact offE_self is e
theorem loopE {nx br ct : NX} {rt : RT} {f : En → Store → ResS} {tg : D → En → Store → ResS} {env0 : En} {st : Store} {ds : List D} (is : List Nat) (I : List D → Store → Prop) (h0 : I ds st) (hn : ∀ env st, OffE is env0 env → I [] st → nx env st)
    (hs : ∀ d r env st, OffE is env0 env → I (d :: r) st → (tg d env st).runs Ee (fun env st => (f env st).runs Ee (fun env st => OffE is env0 env ∧ I r st) rt nx (fun env st => OffE is env0 env ∧ I r st)) noR no no) : (forL tg f ds env0 st).runs Ee nx rt br ct :=
  go_loop (fun ds env st => OffE is env0 env ∧ I ds st) ⟨offE_self is env0, h0⟩ (fun env st h => hn env st h.1 h.2) fun d r env st h => hs d r env st h.1 h.2
theorem rngE {nx br ct : NX} {rt : RT} {f : En → Store → ResS} {tg : D → En → Store → ResS} {env0 : En} {st : Store} {lo : Int} {n : Nat} (is : List Nat) (I : Nat → Store → Prop) (h0 : I 0 st) (hn : ∀ env st, OffE is env0 env → I n st → nx env st)
    (hs : ∀ (m : Nat) env st, m < n → OffE is env0 env → I m st → (tg (.int (lo + (m : Int))) env st).runs Ee (fun env st => (f env st).runs Ee (fun env st => OffE is env0 env ∧ I (m + 1) st) rt nx (fun env st => OffE is env0 env ∧ I (m + 1) st)) noR no no) : (forL tg f (rngD lo n) env0 st).runs Ee nx rt br ct :=
  rng_loop (fun m env st => OffE is env0 env ∧ I m st) ⟨offE_self is env0, h0⟩ (fun env st h => hn env st h.1 h.2) fun m env st hm h => hs m env st hm h.1 h.2
/-! list comprehensions, turn by turn -/
def LcP (p : Pat) (tt : En → Store → Res Bool) (te : En → Store → Res D) (env : En) (ds : List D) (st : Store) (Q : List D → Store → Prop) : Prop := (lcL p tt te env ds st).holds noE Q
section
variable {p : Pat} {tt : En → Store → Res Bool} {te : En → Store → Res D} {env : En} {st : Store} {Q : List D → Store → Prop} {d : D} {ds bs : List D}
theorem go_lc0 {fi : En → Store → Res (List D)} {vs : List Nat} {PS : Slot → Store → Prop} (q : (fi env st).holds E fun ds st => Nm (wipeE env vs) fun env => LcP p tt te env ds st fun ys st => ys.length ≤ 1000 ∧ PS (.ol ys) st) : (vLc fi p vs tt te env st).holds E PS := by
  unfold vLc
  rw [Res.holds_bind]
  refine q.imp fun ds st h => ?_
  refine Res.holds.any ?_
  rw [Res.holds_bind0]
  exact Res.holds.imp h fun ys st h => go_mkLst h.1 h.2
theorem lcp_nil (q : Q [] st) : LcP p tt te env [] st Q := q
theorem lcp_cons {bs : List (Nat × D)} (hb : Pat.bind p d = some bs) (q : Nm (bindE env bs) fun e => (tt e st).holds noE fun c st => (c = true → (te e st).holds noE fun y st => LcP p tt te env ds st fun ys st => Q (y :: ys) st) ∧ (c = false → LcP p tt te env ds st Q)) : LcP p tt te env (d :: ds) st Q := by
  unfold LcP lcL
  rw [hb]
  show (Res.bind0 (tt (bindE env bs) st) _).holds noE Q
  rw [Res.holds_bind0]
  refine Res.holds.imp q fun c st h => ?_
  cases c with
  | true =>
    rw [if_pos rfl, Res.holds_bind0]
    refine (h.1 rfl).imp fun y st h => ?_
    rw [Res.holds_bind0]
    exact Res.holds.imp h fun ys st h => h
  | false => exact h.2 rfl
theorem lcp_consY {bs : List (Nat × D)} (hb : Pat.bind p d = some bs) (q : Nm (bindE env bs) fun e => (te e st).holds noE fun y st => LcP p ttYes te env ds st fun ys st => Q (y :: ys) st) : LcP p ttYes te env (d :: ds) st Q := by
  exact lcp_cons hb (And.intro (fun _ => q) (fun h => nomatch h))
theorem lcp_inv (I : List D → List D → Store → Prop) (hs : ∀ d r ys st, I (d :: r) ys st → ∃ bs, Pat.bind p d = some bs ∧ Nm (bindE env bs) fun e => (te e st).holds noE fun y st => I r (ys ++ [y]) st) : ∀ {ds : List D} {ys : List D} {st : Store} {Q : List D → Store → Prop}, I ds ys st → (∀ zs st, I [] (ys ++ zs) st → Q zs st) → LcP p ttYes te env ds st Q
  | [], ys, st, Q, h, q => lcp_nil (q [] st (by rw [List.append_nil]; exact h))
  | d :: ds, ys, st, Q, h, q => by
    obtain ⟨bs, hb, h⟩ := hs d ds ys st h
    exact lcp_consY hb (Res.holds.imp h fun y st h => lcp_inv I hs h fun zs st h => q (y :: zs) st (by rw [List.append_cons]; exact h))
theorem lcp_rng {lo : Int} {n : Nat} (I : Nat → List D → Store → Prop) (h0 : I 0 [] st) (hn : ∀ ys st, I n ys st → Q ys st) (hs : ∀ (m : Nat) ys st, m < n → I m ys st → ∃ bs, Pat.bind p (.int (lo + (m : Int))) = some bs ∧ Nm (bindE env bs) fun e => (te e st).holds noE fun y st => I (m + 1) (ys ++ [y]) st) : LcP p ttYes te env (rngD lo n) st Q := by
  refine lcp_inv (fun ds ys st => ∃ m k, m + k = n ∧ ds = (List.range' m k).map (fun (i : Nat) => D.int (lo + (i : Int))) ∧ I m ys st) ?_ (ys := []) ⟨0, n, by omega, ?_, h0⟩ ?_
  · rintro d r ys st ⟨m, k, e, h, hI⟩
    cases k with
    | zero => cases h
    | succ k =>
      rw [List.range'_succ, List.map_cons] at h
      injection h with h1 h2
      subst h1
      obtain ⟨bs, hb, q⟩ := hs m ys st (by omega) hI
      exact ⟨bs, hb, Res.holds.imp q fun y st q => ⟨m + 1, k, by omega, h2, q⟩⟩
  · unfold rngD
    rw [List.range_eq_range']
  · rintro zs st ⟨m, k, e, h, hI⟩
    cases k with
    | zero =>
      have : m = n := by omega
      subst this
      exact hn zs st hI
    | succ k => rw [List.range'_succ, List.map_cons] at h; cases h
theorem intsOf_map : ∀ ts : List Int, intsOf (ts.map D.int) = some ts
  | [] => rfl
  | t :: ts => by
    rw [List.map_cons]
    unfold intsOf
    rw [intsOf_map ts]
    rfl
end
/-- what holds between two statements; M is told of the row of names ahead, that behind, the store -/
theorem seq_mid {nx br ct : NX} {rt : RT} {a b : En → Store → ResS} {env : En} {st : Store} (M : En → En → Store → Prop) (h1 : (a env st).runs Ee (M env) rt br ct) (h2 : ∀ env' st, M env env' st → Nm env' fun env' => (b env' st).runs Ee nx rt br ct) : (sSeq a b env st).runs Ee nx rt br ct := by
  refine go_seq ?_
  revert h1
  generalize a env st = r
  intro h1
  cases r with
  | nx e s => exact h2 e s h1
  | _ => exact h1
/-! what may be shown, by parts -/
theorem Gd.fit {N n w N' n' w' : Nat} {d : D} (h : Gd N n w d) (a : N ≤ N') (b : n ≤ n') (c : w ≤ w') : Gd N' n' w' d := (h.up a).le b c
theorem Gd.fitw {N n w w' : Nat} {d : D} (h : Gd N n w d) (c : w ≤ w') : Gd N n w' d := h.le (Nat.le_refl _) c
theorem Gds.consL {N n w : Nat} {d : D} {ds : List D} (h1 : Gd N n 200 d) (h3 : 201 ≤ w) (h2 : Gds N n (w - 201) ds) : Gds N n w (d :: ds) := (Gds.cons h1 h2).le (Nat.le_refl _) (by omega)
theorem Gds.consH {N n w : Nat} {d : D} {ds : List D} (h1 : Gd N n (w / 2) d) (h3 : 1 ≤ w) (h2 : Gds N n (w - w / 2 - 1) ds) : Gds N n w (d :: ds) := (Gds.cons h1 h2).le (Nat.le_refl _) (by omega)
theorem gd_non {N n : Nat} : Gd N n 0 .non := ⟨by unfold pl; rfl, by unfold dep; omega, by unfold wt; omega⟩
theorem gd_bl {N n : Nat} {b : Bool} : Gd N n 0 (.bl b) := ⟨by unfold pl; rfl, by unfold dep; omega, by unfold wt; omega⟩
theorem Gd.tupP {N n w : Nat} {ds : List D} (h : 0 < n) (q : Gds N (n - 1) w ds) : Gd N n w (.tup ds) := by
  obtain ⟨m, rfl⟩ : ∃ m, n = m + 1 := ⟨n - 1, by omega⟩
  exact Gd.tup q
theorem Gd.lstP {N n w : Nat} {ds : List D} (h : 0 < n) (q : Gds N (n - 1) w ds) : Gd N n w (.lst ds) := by
  obtain ⟨m, rfl⟩ : ∃ m, n = m + 1 := ⟨n - 1, by omega⟩
  exact Gd.lst q
theorem go_le1000 {α : Type} {xs : List α} {Q : Prop} {k : Nat} (h : xs.length ≤ k) (q : Q) : xs.length ≤ k ∧ Q := ⟨h, q⟩
theorem iteG {N n w : Nat} {c : Prop} [Decidable c] {a b : Str} (h1 : Gd N n w (.str a)) (h2 : Gd N n w (.str b)) : Gd N n w (.str (if c then a else b)) := by split <;> assumption
end EV

set_option Elab.async false
set_option linter.all false
set_option autoImplicit false
set_option maxRecDepth 100000
set_option maxHeartbeats 1000000
/-! enumerate, zip, reversed: what is walked -/
namespace EV
open PySem PySem.Spec PyProof.Rows L2

/-! ### enumerate of a tuple -/
def tupIt (l : Addr) : Obj := { cls := .type "tuple_iterator", data := .fields #[.ref l, .int 0 0] }
def enumOb (it : Addr) : Obj := { cls := .type "enumerate", data := .fields #[.none, .bool false, .ref it, rawInt 0, .none, .none] }
theorem enumT_new (l : Addr) (items : Array Value) :
    Meets (Builtin.«enumerate.__new__» ⟨[.type "enumerate", .ref l], []⟩) (fun _ R s => s.heap.IsTuple l items ∧
      R (.ok (.ret (.ref (s.heap.push (tupIt l)).objs.size))) { s with heap := (s.heap.push (tupIt l)).push (enumOb s.heap.objs.size) }) :=
  .of_wp fun prog w A R s h => by
    obtain ⟨hp, g, d, tk, os⟩ := s
    obtain ⟨hl, h⟩ := h
    have hsub := sub_enumerate
    have hL : Heap.IsTuple (Shared.heap ⟨hp, g, d, tk, os⟩) l items := hl
    wp_walk using wpAny_pyIter_tuple hL
    refine wpAny_stack_any fun st => wpAny_pure ?_
    split
    · rename_i c _ _ _ _ _
      cases (c == Value.type "enumerate")
      · wp_walk using wpAny_pyIter_tuple hL
        exact ⟨_, rfl, h⟩
      · wp_walk using wpAny_pyIter_tuple hL
        exact ⟨_, rfl, h⟩
    · wp_walk using wpAny_pyIter_tuple hL
      exact ⟨_, rfl, h⟩
theorem call_enumT {prog : Program} {w : World} {A : Around} {E : Value → Shared → Prop} {s : Shared} {l : Addr} {items : Array Value} {Q : Value → Shared → Prop} (hL : s.heap.IsTuple l items)
    (h : ∀ h', IsEnum h' (s.heap.objs.size + 1) s.heap.objs.size 0 .none → h'.IsTupleIter s.heap.objs.size l 0 → (∀ b o, s.heap.get? b = some o → h'.get? b = some o) → Q (.ref (s.heap.objs.size + 1)) { s with heap := h' }) :
    wpAny (model prog w) A (call (.type "enumerate") [.ref l]) Q E s := by
  refine callType_new F.called_enumerate (by decide) (F.typeCall_enumerate_1 _) (F.newCall_enumerate_1 _) (fun obj => F.args_object_init_2 obj _) F.entry_enumerate_new (enumT_new l items) ⟨hL, ?_⟩
  have hz : (s.heap.push (tupIt l)).objs.size = s.heap.objs.size + 1 := Heap.size_push ..
  show _ ∧ _
  rw [hz]
  have he : IsEnum ((s.heap.push (tupIt l)).push (enumOb s.heap.objs.size)) (s.heap.objs.size + 1) s.heap.objs.size 0 .none := by
    have := Heap.get?_push_size (s.heap.push (tupIt l)) (o := enumOb s.heap.objs.size) rfl
    rw [hz] at this
    exact this
  exact ⟨⟨_, he, rfl⟩, h _ he ⟨_, Heap.get?_push_of_some _ (Heap.get?_push_size _ rfl), rfl, rfl⟩ fun b o x => Heap.get?_push_of_some _ (Heap.get?_push_of_some _ x)⟩
theorem drawsNo {prog : Program} {w : World} {A : Around} {it a : Addr} {i : Nat} {items : Array Value} (hh : A.handled = none) (hx : items[i]? = none) :
    Draws prog w A it [it, a] 0 (fun _ _ => True) (fun _ h => h.IsTupleIter it a i ∧ h.IsTuple a items) where
  live := fun _ _ st => let ⟨o, ho, _⟩ := st.1; ⟨o, ho⟩
  frame := fun _ _ _ st hk => ⟨st.1.at fun o e => hk it (by simp) o e, st.2.at fun o e => hk a (by simp) o e⟩
  item := fun j s Q E hj st hQ => absurd hj (Nat.not_lt_zero j)
  done := fun s Q E st hE => wpAny_nextOf_tuple_end hh st.1 st.2 hx hE
/-- the tuple at a, each item in a new pair -/
def IteT (K : PySem.W.Frag) (a : Addr) : It where
  go := fun i H => ∃ (xs : List V) (x : V), SqT K H a xs ∧ xs[i]? = some x
  yld := fun i H v H' => ∃ T x, v = .ref T ∧ H T = none ∧ H' = upd H T (.tup [.int (i : Nat), x]) ∧ ∀ xs, SqT K H a xs → xs[i]? = some x
  stop := fun i H => ∃ xs : List V, SqT K H a xs ∧ xs.length ≤ i
theorem turn_enumT {P : Program} {w : World} {K : PySem.W.Frag} {elts : List Expr} {kk : Nat} {tpos : Pos} (a e it : Addr) (hei : e ≠ it) (hea : a ≠ e) (hai : a ≠ it) :
    Turn P w K (.Tuple elts kk tpos) (IteT K a) [e, it] e (fun i h => (∃ old, IsEnum h e it ((i : Nat) : Int) old) ∧ h.IsTupleIter it a i) where
  mem := List.mem_cons_self
  obj := fun i h st b hb => by
    obtain ⟨⟨old, he⟩, o, ho, hc, hd⟩ := st
    rcases List.mem_cons.mp hb with z | z
    · rw [z]; exact ⟨_, he, fun v q => nomatch q⟩
    · rw [List.mem_singleton.mp z]; exact ⟨o, ho, fun v q => by rw [hd] at q; cases q⟩
  keep := fun i h h' st k => ⟨let ⟨old, he⟩ := st.1; ⟨old, k e (by simp) _ he⟩, st.2.at fun o q => k it (by simp) o q⟩
  item := by
    intro X hP hw hK hc i pins s σ H E I hf st hg
    cases hP; cases hw; cases hK
    obtain ⟨⟨old, he⟩, hit⟩ := st
    obtain ⟨xs, x, hq, hx⟩ := hg
    obtain ⟨its, rv, p, hz⟩ := I.tuple hq
    obtain ⟨u, hu, ru⟩ := rv.get hx
    have hel : e < s.heap.objs.size := Heap.lt_size he
    have hil : it < s.heap.objs.size := by obtain ⟨_, q, _⟩ := hit; exact Heap.lt_size q
    have pt : s.heap.IsTuple a its.toArray := p
    have hlt : i < its.toArray.size := by
      have := (List.getElem?_eq_some_iff.mp hu).1
      simpa using this
    refine wpAny_pyNext_enum_itemC (Draws.tuple (A := X.A.in1) (I.ok.hd hc) it a hai its.toArray) he ⟨hit, pt⟩ hlt hei (by simp [hei, Ne.symm hea]) fun y h' tk hy ho hs' hT hsz hk => ?_
    have ey : y = u := by
      have h1 : its.toArray[i]? = some y := hy
      have h2 : its.toArray[i]? = some u := by simpa using hu
      rw [h1] at h2
      cases h2
      rfl
    subst ey
    refine ⟨_, rfl, wpAny_letOwnedTupleGo_enum (s := { s with heap := h', toks := tk + 1 }) ho fun h'' he' sb => ?_⟩
    have hT2 : h''.get? s.heap.objs.size = some { cls := .type "tuple", data := .seq #[.int i tk, y] } := (sb.2 _ (Nat.ne_of_gt hel)).trans hT
    have new : ObjOk X.prog X.w (upd H s.heap.objs.size (.tup [.int (i : Nat), x])) h'' s.heap.objs.size (.tup [.int (i : Nat), x]) :=
      ⟨by show 2 ≤ sizeLine; decide, [.int i tk, y], .cons ⟨_, rfl⟩ (.cons ru .nil), _, hT2, rfl, _, rfl⟩
    have I1 : L2.Inv X pins σ (upd H s.heap.objs.size (.tup [.int (i : Nat), x])) { s with heap := h'', toks := tk + 1 } :=
      I.turnedNew (ch := [e, it]) (fun b ob hb q => (sb.2 b fun z => hb (z ▸ List.mem_cons_self)).trans (hk b ob (fun z => hb (by simp [z])) (fun z => hb (by simp [z])) q)) hf (Nat.le_refl _) new
    refine ⟨.ref s.heap.objs.size, _, I1, rfl, ⟨_, x, rfl, I.hok.fresh (Nat.le_refl _), rfl, fun ys hy => by rw [I.tuple_inj hy hq]; exact hx⟩, ⟨⟨y, ?_⟩, hs'.1.at fun o q => (sb.2 it (Ne.symm hei)).trans q⟩, fun b hb => ?_⟩
    · have e1 : ((i + 1 : Nat) : Int) = (i : Int) + 1 := by omega
      rw [e1]
      exact he'
    · have hb' : b < s.heap.objs.size := by
        rcases List.mem_cons.mp hb with z | z
        · exact z ▸ hel
        · exact (List.mem_singleton.mp z) ▸ hil
      rw [upd_ne (Nat.ne_of_lt hb')]
      exact (hf b hb).1
  done := by
    intro X hP hw hK hc i pins s σ H E I hf st hg
    cases hP; cases hw; cases hK
    obtain ⟨⟨old, he⟩, hit⟩ := st
    obtain ⟨xs, hq, hx⟩ := hg
    obtain ⟨its, rv, p, hz⟩ := I.tuple hq
    obtain ⟨f0, f1, f2, f3, f4, f5⟩ := hf it (by simp)
    have hl := rv.length
    have pt : s.heap.IsTuple a its.toArray := p
    exact wpAny_pyNext_enum_endD (drawsNo (A := X.A.in1) (I.ok.hd hc) (show its.toArray[i]? = none by simp; omega)) he ⟨hit, pt⟩ fun h' eb => ⟨rfl, I.turned (t' := s.toks) (fun b o hb q => eb b o hb q) f0 f1 f3 f4 f5⟩
  self := fun A i s Q E st h => let ⟨⟨_, he⟩, _⟩ := st; wpAny_pyIter_enum he h
section
variable {X : Cx} {W : Wi} {pos : Pos}
def iEnumA (K : PySem.W.Frag) (ta : TA) : TI := fun σ H R => ta σ H fun vs H1 => ∃ a xs, vs = [.ref a] ∧ ((SqL K H1 a xs ∧ R (Ite K a) H1) ∨ (SqT K H1 a xs ∧ R (IteT K a) H1))
theorem pi_enumA {e : Expr} {ta : TA} {p tpos : Pos} {elts : List Expr} {kk : Nat} (hg : Gl X "enumerate") (hm : X.mg "enumerate" = none) (ha : PA X [e] ta) (hs : starEach [e] X.env = [(false, eval e X.env)] := by rfl) :
    PI X (.Tuple elts kk tpos) (.Call (.Name "enumerate" p) [e] [] pos) (iEnumA X.K ta) := by
  refine ⟨fun pins s σ H R I h => Call_ (ld_blt I hg hm boot_enumerate (PyProof.Rows.callWith_type1 (thn (ha.run pos pins s σ H _ I h) fun us s1 ⟨vs, H1, I1, r1, a, xs, ex, q1⟩ => ?_) hs rfl))⟩
  cases ex
  cases r1 with
  | cons r rr =>
    cases rr; cases r
    have fr2 : ∀ b ∈ [s1.heap.objs.size + 1, s1.heap.objs.size], FpOk X pins H1 b := fun b hb => by
      have hle : s1.heap.objs.size ≤ b := by
        rcases List.mem_cons.mp hb with z | z
        · omega
        · exact Nat.le_of_eq (List.mem_singleton.mp z).symm
      exact I1.fpOk hle (I1.hok.fresh hle)
    rcases q1 with ⟨hq, q⟩ | ⟨hq, q⟩
    · obtain ⟨its, rv, p', hz⟩ := I1.list hq
      exact call_enumerate_list p'.isList fun h' he hit hsz hk => wpAny_pyIter_enum he
        ⟨_, _, _, _, H1, rfl, I1.kept (t' := s1.toks) hk, turn_enum a (s1.heap.objs.size + 1) s1.heap.objs.size, ⟨⟨.none, he⟩, hit, Nat.succ_ne_self _⟩, fr2, q⟩
    · obtain ⟨its, rv, p', hz⟩ := I1.tuple hq
      have pt : s1.heap.IsTuple a its.toArray := p'
      obtain ⟨oa, hoa, _⟩ := id p'
      have hlt : a < s1.heap.objs.size := Heap.lt_size hoa
      exact call_enumT pt fun h' he hit hk => wpAny_pyIter_enum he
        ⟨_, _, _, _, H1, rfl, I1.kept (t' := s1.toks) hk, turn_enumT a (s1.heap.objs.size + 1) s1.heap.objs.size (Nat.succ_ne_self _) (Nat.ne_of_lt (Nat.lt_succ_of_lt hlt)) (Nat.ne_of_lt hlt), ⟨⟨.none, he⟩, hit⟩, fr2, q⟩
/-- the pairs of enumerate -/
def enumD : Nat → List D → List D
  | _, [] => []
  | i, d :: ds => .tup [.int (i : Int), d] :: enumD (i + 1) ds
theorem enumD_length : ∀ (k : Nat) (ds : List D), (enumD k ds).length = ds.length
  | _, [] => rfl
  | k, _ :: ds => by show (enumD (k + 1) ds).length + 1 = ds.length + 1; rw [enumD_length]
theorem enumD_get : ∀ {k : Nat} {ds : List D} {i : Nat} {d : D}, (enumD k ds)[i]? = some d → ∃ x, ds[i]? = some x ∧ d = .tup [.int ((k + i : Nat) : Int), x]
  | _, [], i, d, h => by cases h
  | k, x :: ds, 0, d, h => by cases h; exact ⟨x, rfl, rfl⟩
  | k, x :: ds, i + 1, d, h => by
    obtain ⟨y, h1, h2⟩ := enumD_get (k := k + 1) (ds := ds) (i := i) (d := d) h
    exact ⟨y, h1, by rw [h2, show k + (i + 1) = k + 1 + i by omega]⟩
def zipD (xs ys : List D) : List D := List.zipWith (fun a b => D.tup [a, b]) xs ys
section
variable {K : PySem.W.Frag} {mg : Str → Option Value} {g : G} {a b : Addr} {ds es : List D} {vs us : List V}
theorem walk_pair {g1 : G} {H : Hp} {st : Store} {T : Addr} {v w : V} {d e : D} (S : SOk K mg g1 st H) (hT : H T = none) (r1 : Rep K mg g1 d v) (r2 : Rep K mg g1 e w) : ∃ g', Step g1 H [] g' (upd H T (.tup [v, w])) [] ∧ Rep K mg g' (.tup [d, e]) (.ref T) ∧ SOk K mg g' st (upd H T (.tup [v, w])) := by
  obtain ⟨S', s'⟩ := S.newF (o := .tup [v, w]) hT
  exact ⟨_, s', rep_tupF (S.kpn hT) (.cons r1 (.cons r2 .nil)), S'⟩
theorem walks_enum (h : g.kp a = some (.lst vs)) (r : RepL K mg g ds vs) : Walks K mg (Ite K a) g (enumD 0 ds) := by
  intro g1 H st x S
  have hs : SqL K H a vs := SqL.of (S.kp _ _ (x.kp _ _ h))
  refine ⟨fun i hi => ⟨vs, hs, by rw [← r.length, ← enumD_length 0]; exact hi⟩, fun i d hd => ?_⟩
  obtain ⟨d0, h0, rfl⟩ := enumD_get hd
  obtain ⟨v, h1, h2⟩ := r.get h0
  refine ⟨⟨vs, v, hs, h1⟩, fun y H' ⟨T, z, e1, hT, e2, hy⟩ => ?_⟩
  have := hy vs hs
  rw [h1] at this
  cases this; cases e1; cases e2
  rw [Nat.zero_add]
  exact walk_pair S hT (.int _) (h2.ext x)
theorem walks_enumT (h : TupAt K g.kp a vs) (r : RepL K mg g ds vs) : Walks K mg (IteT K a) g (enumD 0 ds) := by
  intro g1 H st x S
  have hs : SqT K H a vs := S.sqT (tupAt_ext x h)
  refine ⟨fun i hi => ⟨vs, hs, by rw [← r.length, ← enumD_length 0]; exact hi⟩, fun i d hd => ?_⟩
  obtain ⟨d0, h0, rfl⟩ := enumD_get hd
  obtain ⟨v, h1, h2⟩ := r.get h0
  refine ⟨⟨vs, v, hs, h1⟩, fun y H' ⟨T, z, e1, hT, e2, hy⟩ => ?_⟩
  have := hy vs hs
  rw [h1] at this
  cases this; cases e1; cases e2
  rw [Nat.zero_add]
  exact walk_pair S hT (.int _) (h2.ext x)
theorem zipD_get {i : Nat} {d : D} (h : (zipD ds es)[i]? = some d) : ∃ x y, ds[i]? = some x ∧ es[i]? = some y ∧ d = .tup [x, y] := by
  unfold zipD at h
  rw [List.getElem?_zipWith] at h
  cases e1 : ds[i]? with
  | none => rw [e1] at h; simp at h
  | some x =>
    cases e2 : es[i]? with
    | none => rw [e1, e2] at h; simp at h
    | some y => rw [e1, e2] at h; cases h; exact ⟨x, y, rfl, rfl, rfl⟩
theorem zipD_len {i : Nat} (h : (zipD ds es).length ≤ i) : ds.length ≤ i ∨ es.length ≤ i := by
  unfold zipD at h
  rw [List.length_zipWith] at h
  omega
theorem walks_zip (h : g.kp a = some (.lst vs)) (h' : g.kp b = some (.lst us)) (r : RepL K mg g ds vs) (r' : RepL K mg g es us) : Walks K mg (Itz K a b) g (zipD ds es) := by
  intro g1 H st x S
  have hs : SqL K H a vs := SqL.of (S.kp _ _ (x.kp _ _ h))
  have hs' : SqL K H b us := SqL.of (S.kp _ _ (x.kp _ _ h'))
  refine ⟨fun i hi => ⟨vs, us, hs, hs', by rw [← r.length, ← r'.length]; exact zipD_len hi⟩, fun i d hd => ?_⟩
  obtain ⟨d0, e0, h0, h0', rfl⟩ := zipD_get hd
  obtain ⟨v, h1, h2⟩ := r.get h0
  obtain ⟨u, k1, k2⟩ := r'.get h0'
  refine ⟨⟨vs, us, v, u, hs, hs', h1, k1⟩, fun y H' ⟨T, z, z', e1, hT, e2, hy, hy'⟩ => ?_⟩
  have c1 := hy vs hs
  have c2 := hy' us hs'
  rw [h1] at c1
  rw [k1] at c2
  cases c1; cases c2; cases e1; cases e2
  exact walk_pair S hT (h2.ext x) (k2.ext x)
theorem walks_zipT (h : TupAt K g.kp a vs) (h' : TupAt K g.kp b us) (r : RepL K mg g ds vs) (r' : RepL K mg g es us) : Walks K mg (RZ.ItzT K a b) g (zipD ds es) := by
  intro g1 H st x S
  have hs : SqT K H a vs := S.sqT (tupAt_ext x h)
  have hs' : SqT K H b us := S.sqT (tupAt_ext x h')
  refine ⟨fun i hi => ⟨vs, us, hs, hs', by rw [← r.length, ← r'.length]; exact zipD_len hi⟩, fun i d hd => ?_⟩
  obtain ⟨d0, e0, h0, h0', rfl⟩ := zipD_get hd
  obtain ⟨v, h1, h2⟩ := r.get h0
  obtain ⟨u, k1, k2⟩ := r'.get h0'
  refine ⟨⟨vs, us, v, u, hs, hs', h1, k1⟩, fun y H' ⟨T, z, z', e1, hT, e2, hy, hy'⟩ => ?_⟩
  have c1 := hy vs hs
  have c2 := hy' us hs'
  rw [h1] at c1
  rw [k1] at c2
  cases c1; cases c2; cases e1; cases e2
  exact walk_pair S hT (h2.ext x) (k2.ext x)
theorem walks_rev (h : g.kp a = some (.lst vs)) (r : RepL K mg g ds vs) : Walks K mg (Itv K a vs.length) g ds.reverse := by
  intro g1 H st x S
  have hs : SqL K H a vs := SqL.of (S.kp _ _ (x.kp _ _ h))
  have hl := r.length
  refine ⟨fun i hi => by show vs.length ≤ i; rw [← hl, ← List.length_reverse]; exact hi, fun i d hd => ?_⟩
  have hi : i < ds.length := by
    have := (List.getElem?_eq_some_iff.mp hd).1
    simpa using this
  rw [List.getElem?_reverse hi] at hd
  obtain ⟨v, h1, h2⟩ := r.get hd
  rw [hl] at h1 hi
  refine ⟨⟨hi, vs, v, hs, h1⟩, fun y H' ⟨e1, hy⟩ => ?_⟩
  have := hy vs hs
  rw [h1] at this
  cases this; cases e1
  exact ⟨g1, Step.refl, h2.ext x, S⟩
theorem walks_revT (h : TupAt K g.kp a vs) (r : RepL K mg g ds vs) : Walks K mg (RT.ItvT K a vs.length) g ds.reverse := by
  intro g1 H st x S
  have hs : SqT K H a vs := S.sqT (tupAt_ext x h)
  have hl := r.length
  refine ⟨fun i hi => by show vs.length ≤ i; rw [← hl, ← List.length_reverse]; exact hi, fun i d hd => ?_⟩
  have hi : i < ds.length := by
    have := (List.getElem?_eq_some_iff.mp hd).1
    simpa using this
  rw [List.getElem?_reverse hi] at hd
  obtain ⟨v, h1, h2⟩ := r.get hd
  rw [hl] at h1 hi
  refine ⟨⟨hi, vs, v, hs, h1⟩, fun y H' ⟨e1, hy⟩ => ?_⟩
  have := hy vs hs
  rw [h1] at this
  cases this; cases e1
  exact ⟨g1, Step.refl, h2.ext x, S⟩
end
def enumF : List D → Store → Res (List D) := fun ds st => match ds with
  | [.lst xs] => .ok (enumD 0 xs) st
  | [.tup xs] => .ok (enumD 0 xs) st
  | _ => .stuck
def zipF : List D → Store → Res (List D) := fun ds st => match ds with
  | [.lst xs, .lst ys] => .ok (zipD xs ys) st
  | [.tup xs, .tup ys] => .ok (zipD xs ys) st
  | _ => .stuck
def revdF : D → Store → Res (List D) := fun d st => match d with
  | .lst xs => .ok xs.reverse st
  | .tup xs => .ok xs.reverse st
  | _ => .stuck
theorem i_enum {e : Expr} {fa : En → Store → Res (List D)} {p tpos : Pos} {elts : List Expr} {kk : Nat} (hg : Gl X "enumerate") (hm : X.mg "enumerate" = none) (ha : AE X W [e] fa) (hs : starEach [e] X.env = [(false, eval e X.env)] := by rfl) : IE X W (.Tuple elts kk tpos) (.Call (.Name "enumerate" p) [e] [] pos) (vA enumF fa) := by
  refine ⟨fun pins s σ H R I ⟨g, env, st, os, hv, ho, hS, h⟩ => ?_⟩
  refine (pi_enumA hg hm ha hs).run pins s σ H R I ⟨g, env, st, os, hv, ho, hS, (PostI.bind h).imp fun vs H1 q => ?_⟩
  obtain ⟨g1, ds, st1, s1, r, S1, h1⟩ := q
  unfold enumF at h1
  split at h1
  · next xs =>
    obtain ⟨v, rfl, rv⟩ := r.one
    cases rv with
    | @lst a ws _ hx rl => exact ⟨a, ws, rfl, .inl ⟨SqL.of (S1.kp _ _ hx), h1 _ g1 H1 Step.refl S1 (walks_enum hx rl)⟩⟩
  · next xs =>
    obtain ⟨v, rfl, rv⟩ := r.one
    cases rv with
    | @tup a ws _ hx rl => exact ⟨a, ws, rfl, .inr ⟨S1.sqT hx, h1 _ g1 H1 Step.refl S1 (walks_enumT hx rl)⟩⟩
  · exact (h1 : False).elim
theorem i_zip {e e2 : Expr} {fa : En → Store → Res (List D)} {p tpos : Pos} {elts : List Expr} {kk : Nat} (hg : Gl X "zip") (hm : X.mg "zip" = none) (ha : AE X W [e, e2] fa) (hs : starEach [e, e2] X.env = (false, eval e X.env) :: starEach [e2] X.env := by rfl) (hpl : (backTo pos (starEach [e2] X.env)).any (·.1) = false := by rfl) : IE X W (.Tuple elts kk tpos) (.Call (.Name "zip" p) [e, e2] [] pos) (vA zipF fa) := by
  refine ⟨fun pins s σ H R I ⟨g, env, st, os, hv, ho, hS, h⟩ => ?_⟩
  refine (RZ.pi_zipA hg hm ha hs hpl).run pins s σ H R I ⟨g, env, st, os, hv, ho, hS, (PostI.bind h).imp fun vs H1 q => ?_⟩
  obtain ⟨g1, ds, st1, s1, r, S1, h1⟩ := q
  unfold zipF at h1
  split at h1
  · next xs ys =>
    obtain ⟨v, w, rfl, rv, rw⟩ := r.two
    cases rv with
    | @lst a ws _ hx rl =>
      cases rw with
      | @lst b us _ hy rm => exact ⟨a, b, ws, us, rfl, .inl ⟨SqL.of (S1.kp _ _ hx), SqL.of (S1.kp _ _ hy), h1 _ g1 H1 Step.refl S1 (walks_zip hx hy rl rm)⟩⟩
  · next xs ys =>
    obtain ⟨v, w, rfl, rv, rw⟩ := r.two
    cases rv with
    | @tup a ws _ hx rl =>
      cases rw with
      | @tup b us _ hy rm => exact ⟨a, b, ws, us, rfl, .inr ⟨S1.sqT hx, S1.sqT hy, h1 _ g1 H1 Step.refl S1 (walks_zipT hx hy rl rm)⟩⟩
  · exact (h1 : False).elim
theorem i_rev {tg e : Expr} {fe : En → Store → Res D} {p : Pos} (hg : Gl X "reversed") (hm : X.mg "reversed" = none) (he : EE X W e fe) (hs : starEach [e] X.env = (false, eval e X.env) :: starEach [] X.env := by rfl) : IE X W tg (.Call (.Name "reversed" p) [e] [] pos) (v1 revdF fe) := by
  refine ⟨fun pins s σ H R I ⟨g, env, st, os, hv, ho, hS, h⟩ => ?_⟩
  refine (RT.pi_revA hg hm he hs).run pins s σ H R I ⟨g, env, st, os, hv, ho, hS, (PostI.bind h).imp fun v H1 q => ?_⟩
  obtain ⟨g1, d, st1, s1, r, S1, h1⟩ := q
  unfold revdF at h1
  split at h1
  · next xs =>
    cases r with
    | @lst a ws _ hx rl => exact ⟨a, ws, rfl, .inl ⟨SqL.of (S1.kp _ _ hx), h1 _ g1 H1 Step.refl S1 (walks_rev hx rl)⟩⟩
  · next xs =>
    cases r with
    | @tup a ws _ hx rl => exact ⟨a, ws, rfl, .inr ⟨S1.sqT hx, h1 _ g1 H1 Step.refl S1 (walks_revT hx rl)⟩⟩
  · exact (h1 : False).elim
/-- sum of a list or a tuple -/
def sumA : List D → Store → Res D := fun xs st => match xs with
  | [.tup ds] => match intsOf ds with
    | some ns => .ok (.int ns.sum) st
    | none => .stuck
  | xs => sumD xs st
theorem sumT_raw {prog : Program} {w : World} {A : Around} {E : Value → Shared → Prop} {s : Shared} {t : Addr} {its : List Value} {ns : List Int} {Q : Value → Shared → Prop} (hh : A.handled = none) (ht : s.heap.IsTuple t its.toArray) (hi : IntsAre its ns)
    (h : ∀ h' tk t', (∀ b o, s.heap.get? b = some o → h'.get? b = some o) → Q (.int ns.sum t') { s with heap := h', toks := tk }) : wpAny (model prog w) A (call (.builtin "sum") [.ref t]) Q E s := by
  obtain ⟨xs, e⟩ := hi.allInts.items
  have hn : numsOf (intItems xs).toList = ns := by
    rw [← e]
    exact hi.numsOf
  rw [nums_intItems] at hn
  rw [e] at ht
  refine PySem.W.ktm_sumG hh ht fun h' tk t' hk => ?_
  rw [preSum_eq, List.take_of_length_le (by simp), hn]
  exact h h' tk t' hk
theorem b_sumA (hc : X.calm = true) : OpL X (.builtin "sum") sumA := fun W pins s σ H g st xs vs us Q I S r ru q => by
  unfold sumA at q
  split at q
  · next ds =>
    split at q
    · next ns e =>
      obtain ⟨v, rfl, rv⟩ := r.one
      cases rv with
      | @tup a ws _ hx rl =>
        have hq := S.sqT hx
        rw [intsOf_rep rl e] at hq
        obtain ⟨its, rr, p, hz⟩ := I.tuple hq
        rw [Vals.ref1 ru]
        exact sumT_raw (I.ok.hd hc) (show s.heap.IsTuple a its.toArray from p) rr.ints fun h' tk t' hk => ⟨.int _, H, I.kept hk, ⟨_, rfl⟩, q.here (.int _) S⟩
    · exact q.elim
  · exact b_sum hc W pins s σ H g st _ vs us Q I S r ru q
end
end EV

set_option Elab.async false
set_option linter.all false
set_option autoImplicit false
set_option maxRecDepth 100000
set_option maxHeartbeats 1000000
/-! rows of whole numbers -/
namespace EV
open PySem PySem.Spec PyProof.Rows L2
variable {E : ErP} {Ee : ErS}
section
variable {st : Store} {PL : List D → Store → Prop} {xs ys : List D}
theorem go_enumL (q : PL (enumD 0 xs) st) : (enumF [.lst xs] st).holds E PL := q
theorem go_enumT (q : PL (enumD 0 xs) st) : (enumF [.tup xs] st).holds E PL := q
theorem go_zipL (q : PL (zipD xs ys) st) : (zipF [.lst xs, .lst ys] st).holds E PL := q
theorem go_zipT (q : PL (zipD xs ys) st) : (zipF [.tup xs, .tup ys] st).holds E PL := q
theorem go_revdL (q : PL xs.reverse st) : (revdF (.lst xs) st).holds E PL := q
theorem go_revdT (q : PL xs.reverse st) : (revdF (.tup xs) st).holds E PL := q
end
abbrev IL (ts : List Int) : List D := ts.map D.int
def rngI (lo : Int) (n : Nat) : List Int := (List.range n).map fun (i : Nat) => lo + (i : Int)
theorem rngD_IL {lo : Int} {n : Nat} : rngD lo n = IL (rngI lo n) := by
  unfold rngD rngI IL
  rw [List.map_map]
  rfl
theorem mem_rngI {lo x : Int} {n : Nat} : x ∈ rngI lo n ↔ lo ≤ x ∧ x < lo + n := by
  unfold rngI
  rw [List.mem_map]
  constructor
  · rintro ⟨i, hi, rfl⟩
    have := List.mem_range.mp hi
    omega
  · rintro ⟨h1, h2⟩
    exact ⟨(x - lo).toNat, List.mem_range.mpr (by omega), by omega⟩
theorem lt_rngI {lo : Int} {n : Nat} : (rngI lo n).Pairwise (· < ·) := by
  unfold rngI
  rw [List.pairwise_map]
  exact (List.pairwise_lt_range).imp fun h => by omega
theorem len_rngI {lo : Int} {n : Nat} : (rngI lo n).length = n := by
  unfold rngI
  rw [List.length_map, List.length_range]
theorem sorted_ext : ∀ {as bs : List Int}, as.Pairwise (· < ·) → bs.Pairwise (· < ·) → (∀ x, x ∈ as ↔ x ∈ bs) → as = bs
  | [], [], _, _, _ => rfl
  | [], b :: bs, _, _, h => absurd ((h b).mpr List.mem_cons_self) (by simp)
  | a :: as, [], _, _, h => absurd ((h a).mp List.mem_cons_self) (by simp)
  | a :: as, b :: bs, ha, hb, h => by
    have ha' := List.pairwise_cons.mp ha
    have hb' := List.pairwise_cons.mp hb
    have e : a = b := by
      rcases List.mem_cons.mp ((h a).mp List.mem_cons_self) with e | m
      · exact e
      · rcases List.mem_cons.mp ((h b).mpr List.mem_cons_self) with e | m'
        · exact e.symm
        · have := hb'.1 a m
          have := ha'.1 b m'
          omega
    subst e
    rw [sorted_ext ha'.2 hb'.2 fun x => ?_]
    constructor
    · intro m
      rcases List.mem_cons.mp ((h x).mp (List.mem_cons_of_mem _ m)) with e | m'
      · have := ha'.1 x m
        omega
      · exact m'
    · intro m
      rcases List.mem_cons.mp ((h x).mpr (List.mem_cons_of_mem _ m)) with e | m'
      · have := hb'.1 x m
        omega
      · exact m'
theorem neg_rev {ts : List Int} (h : ts.Pairwise (· < ·)) : (ts.reverse.map fun x => 0 - x).Pairwise (· < ·) := by
  rw [List.pairwise_map, List.pairwise_reverse]
  exact h.imp fun h => by omega
theorem mem_neg {ts : List Int} {x : Int} : x ∈ (ts.reverse.map fun x => 0 - x) ↔ 0 - x ∈ ts := by
  rw [List.mem_map]
  constructor
  · rintro ⟨y, hy, rfl⟩
    rw [show 0 - (0 - y) = y by omega]
    exact List.mem_reverse.mp hy
  · intro h
    exact ⟨0 - x, List.mem_reverse.mpr h, by omega⟩
theorem filter_IL {ts : List Int} {f : D → Bool} : (IL ts).filter f = IL (ts.filter fun x => f (.int x)) := by
  unfold IL
  rw [List.filter_map]
  rfl
theorem last_of {ts : List Int} {M : Int} (h : ts.Pairwise (· < ·)) (hm : M ∈ ts) (hl : ∀ x ∈ ts, x ≤ M) : ∃ as, ts = as ++ [M] := by
  rcases List.eq_nil_or_concat ts with e | ⟨as, b, e⟩
  · subst e
    cases hm
  · rw [List.concat_eq_append] at e
    subst e
    refine ⟨as, ?_⟩
    have hb := hl b (by simp)
    rcases List.mem_append.mp hm with m | m
    · have := (List.pairwise_append.mp h).2.2 M m b (by simp)
      omega
    · rw [List.mem_singleton.mp m]
theorem first_of {ts : List Int} {M : Int} (h : ts.Pairwise (· < ·)) (hm : M ∈ ts) (hl : ∀ x ∈ ts, M ≤ x) : ∃ as, ts = M :: as := by
  cases ts with
  | nil => cases hm
  | cons b as =>
    refine ⟨as, ?_⟩
    have hb := hl b List.mem_cons_self
    rcases List.mem_cons.mp hm with m | m
    · rw [m]
    · have := (List.pairwise_cons.mp h).1 M m
      omega
theorem gds_IL {N : Nat} : ∀ {ts : List Int}, (∀ i ∈ ts, i.natAbs < N) → Gds N 0 (41 * ts.length) (IL ts)
  | [], _ => Gds.nil
  | t :: ts, h => (Gds.cons (gd_int (h t List.mem_cons_self)) (gds_IL fun d hd => h d (List.mem_cons_of_mem _ hd))).le (Nat.le_refl _) (by rw [List.length_cons]; omega)
theorem pds_IL : ∀ {ts : List Int}, D.pds (IL ts) = some (ts.map PyData.int)
  | [] => rfl
  | t :: ts => by
    show D.pds (.int t :: IL ts) = _
    unfold D.pds
    rw [pds_IL, show D.pd (.int t) = some (.int t) by unfold D.pd; rfl]
    rfl
theorem shaped_of {N n w : Nat} {d : D} {q : PyData} (g : Gd N n w d) (hN : N ≤ 10 ^ 12) (hn : n ≤ 64) (e : d.pd = some q) : SeqAt.shaped q = true := by
  obtain ⟨q', e', h1, h2, h3, h4, h5, h6⟩ := pl_pd hN d g.1
  rw [e] at e'
  cases e'
  unfold SeqAt.shaped
  rw [h3]
  simp only [Bool.true_and, decide_eq_true_eq]
  rw [h4]
  exact Nat.le_trans g.2.1 hn
theorem inB_ints {ts : List Int} {x : Int} (h : ∀ i ∈ ts, i.natAbs < 10 ^ 12) (hx : x.natAbs < 10 ^ 12) : inB (.int x) (IL ts) = some (decide (x ∈ ts)) := by
  have e1 : D.pd (.int x) = some (.int x) := by unfold D.pd; rfl
  have e2 : D.pd (.lst (IL ts)) = some (.list (ts.map PyData.int)) := by
    unfold D.pd
    rw [pds_IL]
    rfl
  have s1 := shaped_of (gd_int (n := 0) hx) (Nat.le_refl _) (by decide) e1
  have s2 := shaped_of (Gd.lst (gds_IL h)) (Nat.le_refl _) (by decide) e2
  unfold inB
  rw [e1, pds_IL]
  show (if _ then _ else _) = _
  rw [if_pos ⟨s1, s2⟩]
  congr 1
  rw [Bool.eq_iff_iff, List.any_eq_true, decide_eq_true_iff]
  constructor
  · rintro ⟨z, hz, he⟩
    obtain ⟨i, hi, rfl⟩ := List.mem_map.mp hz
    have : (i == x) = true := by unfold PyData.eqv at he; exact he
    rw [← eq_of_beq this]
    exact hi
  · intro hm
    exact ⟨.int x, List.mem_map.mpr ⟨x, hm, rfl⟩, by unfold PyData.eqv; exact beq_self_eq_true x⟩
theorem bolsOf_map : ∀ {ds : List D} {f : D → Bool}, bolsOf (ds.map fun d => .bl (f d)) = some (ds.map f)
  | [], _ => rfl
  | d :: ds, f => by
    rw [List.map_cons, List.map_cons]
    unfold bolsOf
    rw [bolsOf_map]
    rfl
theorem intsOf_IL (ts : List Int) : intsOf (IL ts) = some ts := intsOf_map ts
theorem at_last {ds : List D} {d : D} {st : Store} : atD st (.lst (ds ++ [d])) (-1) = some d := by
  show atI (ds ++ [d]) (-1) = some d
  unfold atI ixN
  rw [if_neg (by decide), if_pos (by rw [List.length_append, List.length_singleton]; omega)]
  show (ds ++ [d])[((ds ++ [d]).length + -1 : Int).toNat]? = some d
  rw [show (((ds ++ [d]).length : Int) + -1).toNat = ds.length by rw [List.length_append, List.length_singleton]; omega]
  rw [List.getElem?_append_right (Nat.le_refl _), Nat.sub_self]
  rfl
end EV

set_option Elab.async false
set_option linter.all false
set_option autoImplicit false
set_option maxRecDepth 100000
set_option maxHeartbeats 1000000
/-! list(range(a, b, -1)) -/
namespace EV
open PySem PySem.Spec PyProof.Rows L2
variable {E : ErP} {Ee : ErS}
def dnV (i : Int) (n : Nat) : List V := (List.range n).map fun k => V.int (i + (k : Nat) * (-1))
def rngDn (i : Int) (n : Nat) : List D := (List.range n).map fun k => D.int (i + (k : Nat) * (-1))
theorem rep_dn {K : PySem.W.Frag} {mg : Str → Option Value} {g : G} (i : Int) (n : Nat) : RepL K mg g (rngDn i n) (dnV i n) := by
  unfold rngDn dnV
  generalize List.range n = l
  induction l with
  | nil => exact .nil
  | cons k l ih => exact .cons (.int _) ih
theorem vals_dn {i : Int} {n : Nat} {acc : Array Value} (h : ItemsOf (fun k v => ∃ t, v = .int (i + (k : Nat) * (-1)) t) acc n) : Vals (dnV i n) acc.toList := by
  have e : acc.toList.length = n := by rw [Array.length_toList]; exact h.1
  unfold dnV
  rw [← e]
  refine vals_of_get acc.toList _ fun j u hj => ?_
  obtain ⟨t, rfl⟩ := h.2 j u (by rw [← hj, Array.getElem?_toList])
  exact ⟨t, rfl⟩
def DnOk (i j c : Int) : Prop := c = -1 ∧ (-(2 ^ 62) ≤ i ∧ i < 2 ^ 62) ∧ (-(2 ^ 62) ≤ j ∧ j < 2 ^ 62) ∧ (i - j).toNat ≤ 2 ^ 24
instance {i j c : Int} : Decidable (DnOk i j c) := by unfold DnOk; exact inferInstance
def lrngDn : List D → Store → Res Slot := fun ds st => match ds with
  | [.int i, .int j, .int c] => if DnOk i j c then .ok (.ol (rngDn i (i - j).toNat)) st else .stuck
  | _ => .stuck
section
variable {X : Cx} {W : Wi} {a b c : Expr} {p p2 pos pos2 : Pos}
def rgOb (i j : Int) (t t' t'' : Tok) : Obj := { cls := .type "range", data := .fields #[.int i t, .int j t', .int (-1) t''] }
def tLstDn (ta : TA) : TE := fun σ H Q => ta σ H fun vs H1 => ∃ i j c, vs = [.int i, .int j, .int c] ∧ DnOk i j c ∧ ∀ q, H1 q = none → Q (.ref q) (upd H1 q (.lst (dnV i (i - j).toNat)))
theorem pe_listDn {ta : TA} (hc : X.calm = true) (hg : Gl X "list") (hm : X.mg "list" = none) (hg2 : Gl X "range") (hm2 : X.mg "range" = none) (ha : PA X [a, b, c] ta)
    (hs : starEach [a, b, c] X.env = (false, eval a X.env) :: starEach [b, c] X.env := by rfl) (hpl : (backTo pos2 (starEach [b, c] X.env)).any (·.1) = false := by rfl)
    (na : starEach [.Call (.Name "range" p2) [a, b, c] [] pos2] X.env = (false, eval (.Call (.Name "range" p2) [a, b, c] [] pos2) X.env) :: starEach [] X.env := by rfl) :
    PE X (.Call (.Name "list" p) [.Call (.Name "range" p2) [a, b, c] [] pos2] [] pos) (tLstDn ta) := by
  refine ⟨fun pins s σ H Q I h => ?_⟩
  refine Call_ (ld_blt I hg hm boot_list (PyProof.Rows.callWith_type1 (args_cons (Call_ (ld_blt I hg2 hm2 boot_range (PyProof.Rows.callWith_type1 (thn (ha.run pos2 pins s σ H _ I h) fun us s1 ⟨vs, H1, I1, r1, i, j, k, e, ok, q⟩ => ?_) hs hpl))) na) na))
  cases e
  obtain ⟨e, b1, b2, b3⟩ := ok
  cases e
  cases r1 with
  | cons r rr =>
    cases rr with
    | cons r' rr =>
      cases rr with
      | cons r'' rr =>
        cases rr
        obtain ⟨t, rfl⟩ := r
        obtain ⟨t', rfl⟩ := r'
        obtain ⟨t'', rfl⟩ := r''
        obtain ⟨c0, c1, c2, c3⟩ := RgC.neg (i := i) (j := j) b1.1 b1.2 b2.1 b2.2
        refine call_range_3 c0 (args_nil ?_) (.inl (PyProof.noPylong_small c1))
        have I2 : L2.Inv X pins σ H1 { s1 with heap := s1.heap.push (rgOb i j t t' t'') } := I1.kept (t' := s1.toks) fun b o e => Heap.get?_push_of_some _ e
        refine call_list_range (n := (i - j).toNat) (I2.ok.hd hc) (IsRange.new ..) c2 c3 b3 fun h' tk acc c' hk e' hi => ?_
        refine ⟨.ref (s1.heap.push (rgOb i j t t' t'')).objs.size, upd H1 (s1.heap.push (rgOb i j t t' t'')).objs.size (.lst (dnV i (i - j).toNat)), I2.laid hk (Nat.le_refl _) (show ObjOk X.prog X.w _ _ _ (.lst (dnV i (i - j).toNat)) from ⟨?_, acc.toList, c', vals_dn hi, ?_⟩), rfl, q _ (I2.hok.fresh (Nat.le_refl _))⟩
        · unfold dnV
          rw [List.length_map, List.length_range, sizeLine_eq]
          omega
        · rw [Array.toArray_toList]
          exact e'
theorem s_listDn {fa : En → Store → Res (List D)} (hc : X.calm = true) (hg : Gl X "list") (hm : X.mg "list" = none) (hg2 : Gl X "range") (hm2 : X.mg "range" = none) (ha : AE X W [a, b, c] fa)
    (hs : starEach [a, b, c] X.env = (false, eval a X.env) :: starEach [b, c] X.env := by rfl) (hpl : (backTo pos2 (starEach [b, c] X.env)).any (·.1) = false := by rfl)
    (na : starEach [.Call (.Name "range" p2) [a, b, c] [] pos2] X.env = (false, eval (.Call (.Name "range" p2) [a, b, c] [] pos2) X.env) :: starEach [] X.env := by rfl) :
    SE X W (.Call (.Name "list" p) [.Call (.Name "range" p2) [a, b, c] [] pos2] [] pos) (vA lrngDn fa) := by
  refine ⟨fun pins s σ H Q I ⟨g, env, st, os, he, ho, hS, h⟩ => (pe_listDn hc hg hm hg2 hm2 ha hs hpl na).run pins s σ H Q I ⟨g, env, st, os, he, ho, hS, (Post.bindS h).imp fun vs H1 q => ?_⟩⟩
  obtain ⟨g1, ds, st1, s1, r, S1, h1⟩ := q
  unfold lrngDn at h1
  split at h1
  · next i j k =>
    cases r with
    | cons r1 rr =>
      cases rr with
      | cons r2 rr =>
        cases rr with
        | cons r3 rr =>
          cases rr; cases r1; cases r2; cases r3
          split at h1
          · next ok => exact ⟨i, j, k, rfl, ok, fun q hq => h1.newLst S1 (rep_dn _ _) hq⟩
          · exact h1.elim
  · exact h1.elim
end
/-! three names at once; x.extend(a list) -/
def sPar3 (i j l : Nat) (f : En → Store → Res (List D)) : En → Store → ResS := fun env st => (f env st).go env fun ds st => match ds with
  | [a, b, c] => .nx (((env.set i (.vl a)).set j (.vl b)).set l (.vl c)) st
  | _ => .stuck
def sExt (i : Nat) (fe : En → Store → Res D) : En → Store → ResS := fun env st => match env[i]? with
  | some (.ol ds) => (fe env st).go env fun d st => match d with
    | .lst zs => if ds.length + zs.length ≤ sizeLine then .nx (env.set i (.ol (ds ++ zs))) st else .stuck
    | _ => .stuck
  | _ => .stuck
section
variable {X : Cx} {W : Wi} {pos : Pos}
theorem st_par3 {i j l : Nat} {x y z : Str} {a b c : Expr} {fa : En → Store → Res (List D)} {px py pz pt : Pos} {kt k2 : Nat} {pt2 : Pos} (hc : X.calm = true) (hN : X.N.Nodup) (hi : X.N[i]? = some x) (hj : X.N[j]? = some y) (hl : X.N[l]? = some z) (hij : i ≠ j) (hil : i ≠ l) (hjl : j ≠ l)
    (hx : X.env.scope.names.lookup x = some .local) (hy : X.env.scope.names.lookup y = some .local) (hz : X.env.scope.names.lookup z = some .local) (ha : AE X W [a, b, c] fa)
    (hw : swappedStores [.Tuple [.Name x px, .Name y py, .Name z pz] kt pt] (.Tuple [a, b, c] k2 pt2) X.env = pure (some [x, y, z]))
    (hs : swapsWithSole [.Tuple [.Name x px, .Name y py, .Name z pz] kt pt] (.Tuple [a, b, c] k2 pt2) pos.line X.env = pure false := by rfl) :
    ST X W (.Assign [.Tuple [.Name x px, .Name y py, .Name z pz] kt pt] (.Tuple [a, b, c] k2 pt2) pos) (sPar3 i j l fa) := by
  refine ⟨fun pins s σ H D I ⟨g, env, st, os, hv, ho, hS, h⟩ => (ps_par3 hc hN hi hj hl hij hil hjl hx hy hz ha hw hs).run pins s σ H D I ⟨g, env, st, os, hv, ho, hS, (PostSt.go hv ho h).imp fun v H1 q => ?_⟩⟩
  obtain ⟨g1, ds, st1, s1, r, S1, e1, o1, h1⟩ := q
  match ds, r, h1 with
  | [], _, h1 => exact (h1 : False).elim
  | [_], _, h1 => exact (h1 : False).elim
  | [_, _], _, h1 => exact (h1 : False).elim
  | _ :: _ :: _ :: _ :: _, _, h1 => exact (h1 : False).elim
  | [d1, d2, d3], .cons r1 (.cons r2 (.cons r3 .nil)), h1 =>
    refine ⟨_, _, _, rfl, ?_⟩
    obtain ⟨os1, q1, q2, q3⟩ := e1.set (l := []) (.vl r1) i
    obtain ⟨os2, p1, p2, p3⟩ := q1.set (l := []) (.vl r2) j
    obtain ⟨os3, t1, t2, t3⟩ := p1.set (l := []) (.vl r3) l
    have u1 : ∀ a ∈ os1, a ∈ _ := fun a ha => by simpa using q2 a ha
    have u2 : ∀ a ∈ os2, a ∈ os1 := fun a ha => by simpa using p2 a ha
    have u3 : ∀ a ∈ os3, a ∈ os2 := fun a ha => by simpa using t2 a ha
    have o2 := o1.sub u1 (q3 (by simpa using o1.nd))
    have o3 := o2.sub u2 (p3 (by simpa using o2.nd))
    have o4 := o3.sub u3 (t3 (by simpa using o3.nd))
    exact h1 _ g1 _ os3 (Step.refl.sub fun a ha => u1 a (u2 a (u3 a ha))) t1 o4 S1
theorem st_ext (i : Nat) {x : Str} {e : Expr} {fe : En → Store → Res D} {xpos apos cpos : Pos} (hN : X.N[i]? = some x) (hv : Vis X.env.scope x) (he : EE X W e fe)
    (hbase : attributeBase (.Name x xpos) "extend" X.env (eval (.Name x xpos) X.env) = eval (.Name x xpos) X.env := by rfl)
    (hfew : ((backTo cpos (starEach [e] X.env)).all (fun x => !x.1) && (backToKw cpos (keywordEach [] X.env)).all (fun x => x.1.isSome)
      && decide ([e].length + ([] : List Keyword).length + (if ([] : List Keyword).isEmpty then 0 else 1) < 30)) = true := by rfl)
    (hline : (apos.endLine == cpos.line) = true := by rfl) (hs : starEach [e] X.env = (false, eval e X.env) :: starEach [] X.env := by rfl) (hplain : (backTo cpos (starEach [] X.env)).any (·.1) = false := by rfl)
    (hd : (x == ("__debug__" : Str)) = false := by decide) (hcd : (x == ("__classdict__" : Str)) = false := by decide) :
    ST X W (.Expr (.Call (.Attribute (.Name x xpos) "extend" apos) [e] [] cpos) pos) (sExt i fe) := by
  refine ⟨fun pins s σ H D I h => ?_⟩
  obtain ⟨g, env, st, os, hv', ho, hS, h⟩ := h
  unfold sExt at h
  split at h
  · next ds hi =>
    obtain ⟨o, l, h1, h2, h3⟩ := hv'.get hi
    cases h2 with
    | @ol _ a vs ha rl =>
      have hm := h3 a List.mem_cons_self
      refine (ps_expr (pe_bm PySem.F.plainAttrs_list PySem.F.slot_list_extend PySem.F.type_list_extend mt_extend (pe_var hN hv hd hcd) (pa_cons he pa_nil hs) hbase hfew hline hs hplain)).run pins s σ H D I
        ⟨_, h1, .inl ⟨rfl, _, SqL.of ha⟩, g, env, st, os, hv', ho, hS, (PostSt.go hv' ho h).imp fun v H1 q => ?_⟩
      obtain ⟨g1, d, st1, s1, r, S1, e1, o1, h4⟩ := q
      split at h4
      · next zs =>
        split at h4
        · next hz =>
          cases r with
          | @lst b us _ hb rz =>
            have ha1 : H1 a = some (.lst vs) := (s1.fr a (ho.th a hm) (ho.fp a hm) (by simp)).trans ha
            have hb1 : H1 b = some (.lst us) := S1.kp _ _ hb
            refine ⟨a, b, vs, us, rfl, rfl, ha1, hb1, by rw [← rl.length, ← rz.length]; exact hz, ?_⟩
            obtain ⟨os', q1, q2, q3, _⟩ := e1.write o1.nd hi h1 (r := (rl.ext s1.ext).append rz)
            have o2 := o1.sub q2 q3
            exact h4 σ g1 _ os' (Step.wrO hm (o1.th a hm) q2) q1 ⟨q3, fun x hx => by
              by_cases z : x = a
              · subst z; rw [upd_same]; simp
              · rw [upd_ne z]; exact o2.th x hx, o2.kp, o2.fp⟩ (S1.wrO (o1.kp a hm) (o1.fp a hm))
        · exact (h4 : False).elim
      · exact (h4 : False).elim
  · exact (h : False).elim
end
def Par3 (i j l : Nat) (env : En) (ds : List D) (st : Store) (nx : NX) : Prop := match ds with
  | [a, b, c] => nx (((env.set i (.vl a)).set j (.vl b)).set l (.vl c)) st
  | _ => False
theorem go_par3 {nx br ct : NX} {rt : RT} {i j l : Nat} {f : En → Store → Res (List D)} {env : En} {st : Store} (q : (f env st).holds (atE Ee env) fun ds st => Par3 i j l env ds st nx) : (sPar3 i j l f env st).runs Ee nx rt br ct := by
  unfold sPar3
  refine go_go (q.imp fun ds st h => ?_)
  unfold Par3 at h
  split at h
  · exact h
  · exact h.elim
theorem go_par3e {nx : NX} {i j l : Nat} {env : En} {st : Store} {a b c : D} (q : Nm (((env.set i (.vl a)).set j (.vl b)).set l (.vl c)) fun env => nx env st) : Par3 i j l env [a, b, c] st nx := q
def Ext1 (i : Nat) (env : En) (ds : List D) (d : D) (st : Store) (nx : NX) : Prop := ∃ zs, d = .lst zs ∧ ds.length + zs.length ≤ 100000 ∧ nx (env.set i (.ol (ds ++ zs))) st
theorem go_ext {nx br ct : NX} {rt : RT} {i : Nat} {fe : En → Store → Res D} {env : En} {st : Store} {ds : List D} (h : env[i]? = some (.ol ds)) (q : (fe env st).holds (atE Ee env) fun d st => Ext1 i env ds d st nx) : (sExt i fe env st).runs Ee nx rt br ct := by
  unfold sExt
  rw [h]
  refine go_go (q.imp fun d st h => ?_)
  obtain ⟨zs, rfl, hz, h⟩ := h
  show ResS.runs (if ds.length + zs.length ≤ sizeLine then _ else _) _ _ _ _ _
  rw [if_pos (Nat.le_trans hz line100000)]
  exact h
theorem go_ext1 {nx : NX} {i : Nat} {env : En} {st : Store} {ds zs : List D} (hz : ds.length + zs.length ≤ 100000) (q : Nm (env.set i (.ol (ds ++ zs))) fun env => nx env st) : Ext1 i env ds (.lst zs) st nx := ⟨zs, rfl, hz, q⟩
theorem go_lrngDn {i j : Int} {st : Store} {PS : Slot → Store → Prop} (h : -1000000 ≤ i ∧ i ≤ 1000000 ∧ -1000000 ≤ j ∧ j ≤ 1000000) (q : PS (.ol (rngDn i (i - j).toNat)) st) : (lrngDn [.int i, .int j, .int (-1)] st).holds E PS := by
  unfold lrngDn
  have e : DnOk i j (-1) := ⟨rfl, by omega, by omega, by
    have h24 : (2 : Nat) ^ 24 = 16777216 := by decide
    omega⟩
  simp only [if_pos e]
  exact q
theorem dn_mem {i : Int} {n : Nat} {d : D} (h : d ∈ rngDn i n) : ∃ x : Int, d = .int x ∧ i - n < x ∧ x ≤ i := by
  unfold rngDn at h
  obtain ⟨k, hk, rfl⟩ := List.mem_map.mp h
  have := List.mem_range.mp hk
  exact ⟨_, rfl, by omega, by omega⟩
theorem go_allM {ds : List D} {f : D → Bool} {st : Store} {P : D → Store → Prop} (h : ∀ d ∈ ds, f d = true) (q : P (.bl true) st) : (allD [.lst (ds.map fun d => .bl (f d))] st).holds E P := by
  refine go_allD (bs := ds.map f) bolsOf_map ?_
  have e : (ds.map f).all id = true := by
    rw [List.all_eq_true]
    intro b hb
    obtain ⟨d, hd, rfl⟩ := List.mem_map.mp hb
    exact h d hd
  rw [e]
  exact q
theorem all_M {ds : List D} {f : D → Bool} {st : Store} {P : D → Store → Prop} (q : P (.bl (ds.all f)) st) : (allD [.lst (ds.map fun d => .bl (f d))] st).holds E P := by
  refine go_allD (bs := ds.map f) bolsOf_map ?_
  rw [List.all_map]
  exact q
theorem go_sumT {ds : List D} {ns : List Int} {st : Store} {P : D → Store → Prop} (h : intsOf ds = some ns) (q : P (.int ns.sum) st) : (sumA [.tup ds] st).holds E P := by
  show Res.holds (match intsOf ds with
    | some ns => .ok (.int ns.sum) st
    | none => .stuck) E P
  rw [h]
  exact q
theorem at_head {d : D} {ds : List D} {st : Store} : atD st (.lst (d :: ds)) 0 = some d := by
  show atI (d :: ds) 0 = some d
  unfold atI ixN
  rw [if_pos (Int.le_refl 0), if_pos (by rw [List.length_cons]; omega)]
  rfl
end EV

set_option Elab.async false
set_option linter.all false
set_option autoImplicit false
set_option maxRecDepth 100000
set_option maxHeartbeats 1000000
/-! dict comprehensions; tuples and dicts of the module -/
namespace EV
open PySem PySem.Spec PyProof.Rows L2
variable {E : ErP} {Ee : ErS}

def dcL (p : Pat) (tt : En → Store → Res Bool) (tk te : En → Store → Res D) (env : En) : List D → List (DK × D) → Store → Res (List (DK × D))
  | [], acc, st => .ok acc st
  | d :: ds, acc, st => match Pat.bind p d with
    | none => .stuck
    | some bs => (tt (bindE env bs) st).bind0 fun c st => if c = true then (tk (bindE env bs) st).bind0 fun y st => (te (bindE env bs) st).bind0 fun z st => match keyOf y with
        | some x => if acc.length < sizeLine then dcL p tt tk te env ds (putD acc (.k x) z) st else .stuck
        | none => .stuck
      else dcL p tt tk te env ds acc st
/-- keys are whole numbers, texts -/
def vDc (fi : En → Store → Res (List D)) (p : Pat) (vs : List Nat) (tt : En → Store → Res Bool) (tk te : En → Store → Res D) : En → Store → Res Slot := fun env st => (fi env st).bind fun ds st => (dcL p tt tk te (wipeE env vs) ds [] st).bind0 fun kvs st => .ok (.od false kvs) st
theorem keyOf_val {K : PySem.W.Frag} {mg : Str → Option Value} {g : G} {y : D} {v : V} {x : Key} (r : Rep K mg g y v) (h : keyOf y = some x) : v = kV x := by
  cases y with
  | int i => cases h; cases r; rfl
  | str z => cases h; cases r; rfl
  | _ => cases h
section
variable {X : Cx} {W : Wi}
def DcAt (X : Cx) (g1 : G) (env : En) (σw : L2.St) (D0 : Addr) (Q : VK) (p : Pat) (tt : En → Store → Res Bool) (tk te : En → Store → Res D) (ds : List D) (H : Hp) : Prop :=
  ∃ g st os acc zs, Ext g1 g ∧ EnvOk X.K X.mg g H env σw os ∧ OsOk g H os ∧ SOk X.K X.mg g st H ∧ H D0 = some (.dK zs) ∧ RepD X.K X.mg g acc (.dK zs) ∧ (acc.map (·.1)).Nodup ∧ g.kp D0 = none ∧ D0 ∉ g.fp ∧ D0 ∉ os ∧
    ∃ ys st', dcL p tt tk te env ds acc st = .ok ys st' ∧
      ∀ g' H' zs', Step g H [D0] g' H' [D0] → H' D0 = some (.dK zs') → RepD X.K X.mg g' ys (.dK zs') → (ys.map (·.1)).Nodup → g'.kp D0 = none → D0 ∉ g'.fp → SOk X.K X.mg g' st' H' → Q (.ref D0) H'
theorem dc_reads {p : Pat} {own : List (Str × Nat)} {fi : En → Store → Res (List D)} {tt : En → Store → Res Bool} {tk te : En → Store → Res D} {σ : L2.St} {H : Hp} {Q : VK} (hp : ∀ i ∈ p.slots, i ∈ own.map (·.2))
    (h : tSl X.K X.mg W (vDc fi p (own.map (·.2)) tt tk te) σ H Q) : tDc (tI X.K X.mg W fi) (Pat.tg X.K p) (tT X.K X.mg W0 tt) (tE X.K X.mg W0 tk) (tE X.K X.mg W0 te) (own.map (·.2)) σ H Q := by
  obtain ⟨g, env, st, os, hv, ho, hS, h⟩ := h
  refine ⟨g, env, st, os, hv, ho, hS, ?_⟩
  have h' : PostS X.K X.mg W g H σ ((fi env st).bind fun ds st => (dcL p tt tk te (wipeE env (own.map (·.2))) ds [] st).bind0 fun kvs st => .ok (.od false kvs) st) Q := h
  show PostI _ _ _ _ _ _ (fi env st) _
  generalize fi env st = r at h' ⊢
  cases r with
  | stuck => exact h'
  | er x st1 => exact h'
  | ok ds st1 =>
    intro J g1 H1 s1 S1 wk D0 hD0
    have h2 : PostS X.K X.mg W g1 H1 σ ((dcL p tt tk te (wipeE env (own.map (·.2))) ds [] st1).bind0 fun kvs st => .ok (.od false kvs) st) Q := PostS.step (r := (dcL p tt tk te (wipeE env (own.map (·.2))) ds [] st1).bind0 fun kvs st => .ok (.od false kvs) st) h' s1
    generalize hl : dcL p tt tk te (wipeE env (own.map (·.2))) ds [] st1 = r2 at h2
    cases r2 with
    | stuck => exact (h2 : False).elim
    | er x st2 => exact (h2 : False).elim
    | ok ys st2 =>
      have h3 : PostS X.K X.mg W g1 H1 σ (.ok (.od false ys) st2) Q := h2
      have hv1 := hv.step' ho s1
      have ho1 := ho.step s1
      obtain ⟨osw, e1, e2, e3⟩ := hv1.wipe ho1 (own.map (·.2))
      have ho2 := ho1.sub e2 e3
      obtain ⟨S2, s2, o2⟩ := S1.newO (o := .dK []) hD0
      have hDos : D0 ∉ osw := fun z => ho2.th D0 z hD0
      refine ⟨fun i m H => m = ds.length - i ∧ i ≤ ds.length ∧ DcAt X g1 (wipeE env (own.map (·.2))) (L2.wipe σ (own.map (·.2))) D0 Q p tt tk te (ds.drop i) H, ⟨_, rfl, Nat.zero_le _, g1, st1, osw, [], [], Ext.refl _, e1.step (Ext.refl _) fun a ha => upd_ne (by rintro rfl; exact hDos ha), ⟨ho2.nd, fun a ha => by rw [upd_ne (by rintro rfl; exact hDos ha)]; exact ho2.th a ha, ho2.kp, ho2.fp⟩, S2, upd_same, .nilK, List.nodup_nil, S1.kpn hD0, S1.fpn hD0, hDos, ys, st2, by rw [List.drop_zero]; exact hl, fun g' H' zs' st' hd' rd nd kp fp S' => ?_⟩, ?_⟩
      · exact h3 (.ref D0) g' H' [D0] (s2.trans st') (osOk_one hd' kp fp) (.od hd' rd trivial nd) S'
      · rintro i m H2 ⟨rfl, hle, g2, st3, os2, acc, zs, x2, hv2, ho2, S2, hD, rd, nd, kp, fp, hDo, ys2, st4, hl2, fin⟩
        obtain ⟨w1, w2⟩ := wk g2 H2 st3 x2 S2
        by_cases hlt : i < ds.length
        · refine .inr ⟨(w2 i ds[i] (by simp [hlt])).1, DcAt X g1 (wipeE env (own.map (·.2))) (L2.wipe σ (own.map (·.2))) D0 Q p tt tk te (ds.drop (i + 1)), fun H' n => ⟨_, by omega, rfl, hlt, n⟩, fun x H3 y => ?_⟩
          obtain ⟨g3, s3, r3, S3⟩ := (w2 i ds[i] (by simp [hlt])).2 x H3 y
          rw [List.drop_eq_getElem_cons hlt] at hl2
          unfold dcL at hl2
          split at hl2
          · cases hl2
          · next bs hb =>
            obtain ⟨ws, b1, b2⟩ := Pat.reads S3 p ds[i] x bs hb r3
            refine b2 _ _ ?_
            have hsl : ∀ j ∈ ws.map (·.1), j ∈ own.map (·.2) := fun j hj => hp j (by rw [← Pat.bind_slots p _ bs hb, b1.slots]; exact hj)
            refine ⟨(wipe_bind hsl).trans wipe_idem, ?_⟩
            have hv3 := hv2.step' ho2 s3
            have ho3 := ho2.step s3
            obtain ⟨os3, q1, q2, q3⟩ := EnvOk.binds b1 hv3 ho3
            obtain ⟨c, st5, ht, hl3⟩ := bind0_ok hl2
            have x3 := x2.trans s3.ext
            have kD : ∀ {g' : G} {H' : Hp}, Step g3 H3 [] g' H' [] → H' D0 = some (.dK zs) ∧ g'.kp D0 = none ∧ D0 ∉ g'.fp := fun {g' H'} s' => by
              have z := s3.trans s'
              refine ⟨(z.fr D0 (by rw [hD]; simp) fp (by simp)).trans hD, ?_, fun hm => ?_⟩
              · cases e : g'.kp D0 with
                | none => rfl
                | some u =>
                  rcases z.nk D0 (by rw [e]; simp) with q | q | q | q
                  · exact absurd kp q
                  · rw [hD] at q; cases q
                  · exact nomatch q
                  · exact absurd q fp
              · rcases z.nf D0 hm with q | q | q
                · exact fp q
                · rw [hD] at q; cases q
                · exact nomatch q
            refine ⟨g3, bindE (wipeE env (own.map (·.2))) bs, st3, os3, q1, q3, S3, (Post.bind0 (β := Bool) (γ := Bool) (N := fun c' st' => c' = c ∧ st' = st5) (by rw [ht]; exact ⟨rfl, rfl⟩)).imp fun c' H4 q => ?_⟩
            obtain ⟨g4, c2, st6, s4, rb, S4, rfl, rfl⟩ := q
            cases rb
            have hv4 := q1.step' q3 s4
            have ho4 := q3.step s4
            have hw4 := hv3.step' ho3 s4
            have how4 := ho3.step s4
            have x4 := x3.trans s4.ext
            cases c' with
            | false =>
              refine iteF ?_
              rw [if_neg (by decide)] at hl3
              obtain ⟨d1, d2, d3⟩ := kD s4
              exact ⟨g4, st6, os2, acc, zs, x4, hw4, how4, S4, d1, (rd.ext s3.ext).ext s4.ext, nd, d2, d3, hDo, ys2, st4, hl3, fun g' H' zs' st' => fin g' H' zs' (((s3.trans s4).frame [D0]).trans st')⟩
            | true =>
              refine iteT ?_
              rw [if_pos rfl] at hl3
              obtain ⟨y1, st7, htk, hl4⟩ := bind0_ok hl3
              obtain ⟨z1, st8, hte, hl5⟩ := bind0_ok hl4
              refine ⟨g4, bindE (wipeE env (own.map (·.2))) bs, st6, os3, hv4, ho4, S4, (Post.bind0 (β := V) (γ := V) (N := fun y' st' => y' = y1 ∧ st' = st7) (by rw [htk]; exact ⟨rfl, rfl⟩)).imp fun yv H5 q => ?_⟩
              obtain ⟨g5, y2, st9, s5, ry, S5, rfl, rfl⟩ := q
              have hv5 := hv4.step' ho4 s5
              have ho5 := ho4.step s5
              refine ⟨g5, bindE (wipeE env (own.map (·.2))) bs, st9, os3, hv5, ho5, S5, (Post.bind0 (β := V) (γ := V) (N := fun z' st' => z' = z1 ∧ st' = st8) (by rw [hte]; exact ⟨rfl, rfl⟩)).imp fun zv H6 q => ?_⟩
              obtain ⟨g6, z2, st10, s6, rz, S6, rfl, rfl⟩ := q
              split at hl5
              · next kx hk =>
                split at hl5
                · next hz =>
                  have s456 := (s4.trans s5).trans s6
                  obtain ⟨d1, d2, d3⟩ := kD s456
                  have rd6 := (((rd.ext s3.ext).ext s4.ext).ext s5.ext).ext s6.ext
                  have hlen := rd6.lenK
                  have ek : yv = kV kx := keyOf_val ry hk
                  refine ⟨zs, kx, ek, d1, by rw [← hlen]; exact hz, ?_⟩
                  have hw6 := (hw4.step' how4 s5).step' (how4.step s5) s6
                  have how6 := (how4.step s5).step s6
                  have hne : ∀ a ∈ os2, a ≠ D0 := fun a ha z => hDo (z ▸ ha)
                  have rd7 := RepD.putK_ (x := kx) rz rd6 (rd6.ndK nd)
                  refine ⟨g6, st10, os2, putD acc (.k kx) z2, putK zs kx zv, (x4.trans s5.ext).trans s6.ext, hw6.step (Ext.refl _) fun a ha => upd_ne (hne a ha), ⟨how6.nd, fun a ha => by rw [upd_ne (hne a ha)]; exact how6.th a ha, how6.kp, how6.fp⟩, S6.wrO d2 d3, upd_same, rd7, (nodup_put nd).1, d2, d3, hDo, ys2, st4, hl5, fun g' H' zs' st' hd' rl' nd' kp' fp' S' => ?_⟩
                  exact fin g' H' zs' (((s3.trans s456).frame [D0]).trans ((Step.wrO (by simp) (by rw [d1]; simp) (fun _ h => h)).trans st')) hd' rl' nd' kp' fp' S'
                · cases hl5
              · cases hl5
        · have e : i = ds.length := by omega
          subst e
          refine .inl ⟨w1 _ (Nat.le_refl _), ?_⟩
          rw [List.drop_length] at hl2
          cases hl2
          exact fin g2 H2 zs Step.refl hD rd nd kp fp S2
theorem s_dc0 {kx vx tg iter : Expr} {scope sc0 : Scope} {N0 : List Str} {own : List (Str × Nat)} {spos : Pos} {p : Pat} {fi : En → Store → Res (List D)} {tk te : En → Store → Res D} (hc : X.calm = true) (hN : X.N.Nodup) (hi : IE X W tg iter fi) (ok : blkC N0 sc0 scope own = true) (hN0 : X.N = N0) (hs0 : X.env.scope = sc0) (hp : ∀ i ∈ p.slots, i ∈ own.map (·.2))
    (hg : ∀ (s : Shared) (H : Hp) (C : Addr) (cl : List (Str × Addr)) (fp : List Addr), PG (X.blk s H scope (compEnvC scope cl C X.env) fp) tg (Pat.tg X.K p))
    (hk : ∀ (s : Shared) (H : Hp) (C : Addr) (cl : List (Str × Addr)) (fp : List Addr), EE (X.blk s H scope (compEnvC scope cl C X.env) fp) W0 kx tk)
    (he : ∀ (s : Shared) (H : Hp) (C : Addr) (cl : List (Str × Addr)) (fp : List Addr), EE (X.blk s H scope (compEnvC scope cl C X.env) fp) W0 vx te) (hs : ∀ x, foldedSetIterable iter X.env x = pure x := by intro _; rfl) : SE X W (.DictComp kx vx [⟨tg, iter, [], 0⟩] scope spos) (vDc fi p (own.map (·.2)) ttYes tk te) :=
  ⟨fun pins s σ H Q I h => (pe_dc hc hN hi (blkOk_by (by rw [hN0, hs0]; exact ok)) hg ts_nil hk he hs).run pins s σ H Q I (dc_reads (own := own) hp h)⟩
/-! ### tuples of texts of the module, its dicts of such -/
end
structure TupC (K : PySem.W.Frag) (mg : Str → Option Value) (x : Str) (ws : List Str) : Prop where
  ex : ∃ a, mg x = some (.ref a) ∧ KTup K a (ws.map V.str)
theorem repL_strs {K : PySem.W.Frag} {mg : Str → Option Value} {g : G} : ∀ ws : List Str, RepL K mg g (ws.map D.str) (ws.map V.str)
  | [] => .nil
  | w :: ws => .cons (.str w) (repL_strs ws)
def strsOf : List D → Option (List Str)
  | [] => some []
  | .str w :: r => (strsOf r).map (w :: ·)
  | _ :: _ => none
theorem strsOf_map : ∀ ws : List Str, strsOf (ws.map D.str) = some ws
  | [] => rfl
  | w :: ws => by
    show (strsOf (ws.map D.str)).map (w :: ·) = _
    rw [strsOf_map ws]
    rfl
theorem strsOf_rep {K : PySem.W.Frag} {mg : Str → Option Value} {g : G} : ∀ {ds : List D} {vs : List V} {ws : List Str}, RepL K mg g ds vs → strsOf ds = some ws → vs = ws.map V.str
  | _, _, _, .nil, e => by cases e; rfl
  | d :: ds, _, ws, .cons r t, e => by
    cases d with
    | str z =>
      have e' : (strsOf ds).map (z :: ·) = some ws := e
      cases h : strsOf ds with
      | none => rw [h] at e'; cases e'
      | some ms => rw [h] at e'; cases e'; cases r; rw [strsOf_rep t h]; rfl
    | _ => cases e
/-- a text in a constant tuple of texts -/
def inK : D → D → Store → Res D := fun x y st => match x, y with
  | .str z, .st ys => match strsOf ys with
    | some ws => .ok (.bl (ws.any fun w => w == z)) st
    | none => .stuck
  | _, _ => .stuck
theorem any_strs (z : Str) : ∀ ws : List Str, inV (.str z) (ws.map V.str) = ws.any fun w => w == z
  | [] => rfl
  | w :: ws => by
    show ((w == z) || inV (.str z) (ws.map V.str)) = ((w == z) || ws.any fun w => w == z)
    rw [any_strs]
theorem flat_strs : ∀ ws : List Str, (ws.map V.str).all flatV = true
  | [] => rfl
  | w :: ws => by
    show (true && (ws.map V.str).all flatV) = true
    rw [flat_strs]
    rfl
section
variable {X : Cx} {W : Wi}
theorem o_inK : Op2 X (compareOp .In) inK := .of op_in_seq fun W σ H g st x y vx vy Q S rx ry q => by
  unfold inK at q
  split at q
  · next z ys =>
    split at q
    · next ws e =>
      cases rx with
      | str _ => cases ry with
        | @kst a vs _ hk rl =>
          have ev := strsOf_rep rl e
          subst ev
          refine ⟨a, _, rfl, .inr hk.sq, rfl, flat_strs ws, ?_⟩
          show Q (.bl (inV (.str z) (ws.map V.str))) H
          rw [any_strs]
          exact Post.here (R := Rep X.K X.mg) q (.bl _) S
    · exact (q : False).elim
  · exact (q : False).elim
/-- a text not in a tuple of texts -/
def notinT : D → D → Store → Res D := fun x y st => match x, y with
  | .str z, .tup ys => match strsOf ys with
    | some ws => .ok (.bl (!ws.any fun w => w == z)) st
    | none => .stuck
  | _, _ => .stuck
theorem o_notinT : Op2 X (compareOp .NotIn) notinT := .of op_notIn_seq fun W σ H g st x y vx vy Q S rx ry q => by
  unfold notinT at q
  split at q
  · next z ys =>
    split at q
    · next ws e =>
      cases rx with
      | str _ => cases ry with
        | @tup a vs _ hk rl =>
          have ev := strsOf_rep rl e
          subst ev
          refine ⟨a, _, rfl, .inr (S.sqT hk), rfl, flat_strs ws, ?_⟩
          show Q (.bl (!inV (.str z) (ws.map V.str))) H
          rw [any_strs]
          exact Post.here (R := Rep X.K X.mg) q (.bl _) S
    · exact (q : False).elim
  · exact (q : False).elim
theorem e_tupc {x : Str} {pos : Pos} {ws : List Str} (h : TupC X.K X.mg x ws) (hg : Gl X x) (hdb : (x == ("__debug__" : Str)) = false := by decide) : EE X W (.Name x pos) (vC (.st (ws.map D.str))) := by
  obtain ⟨a, hm, hk⟩ := h.ex
  exact e_glob (v := .ref a) hg hm rfl (fun _ => .kst hk (repL_strs ws)) hdb
/-- what is never reached -/
def sNever : En → Store → ResS := fun _ _ => .stuck
theorem st_never {s : Stmt} : ST X W s sNever := by
  refine ⟨fun pins s σ H D I h => ?_⟩
  obtain ⟨g, env, st, os, hv, ho, hS, h⟩ := h
  exact (h : False).elim
def gTpK (n : Nat) (t : List D → En → Store → ResS) : D → En → Store → ResS := fun d env st => match d with
  | .st ds => if ds.length = n then t ds env st else .stuck
  | _ => .stuck
theorem g_tupK {es : List Expr} {j : Nat} {pos : Pos} {t : List D → En → Store → ResS} (n : Nat) (hc : X.calm = true) (h : GEs X W es t)
    (hn : (assignEach es X.env).length = n := by rfl) (hst : (assignEach es X.env).findIdx? (·.1) = none := by rfl) : GE X W (.Tuple es j pos) (gTpK n t) := by
  refine ⟨fun pins s σ H v u Q I r hw => ?_⟩
  obtain ⟨g, env, st, os, hv, ho, hS, d, rd, hw⟩ := hw
  unfold gTpK at hw
  split at hw
  · next ds =>
    cases rd with
    | @kst a vs _ hq rr =>
      split at hw
      · next hl => exact (pg_tup hc h hn hst).run pins s σ H _ u Q I r ⟨a, vs, rfl, hq.sq, by rw [← rr.length]; exact hl, g, env, st, os, hv, ho, hS, ds, rr, hw⟩
      · exact (hw : False).elim
  · exact (hw : False).elim
end
/-! a dict of the module: texts to tuples of texts -/
def EntryT (K : PySem.W.Frag) (e : DictEntry) (p : Str × List Str) : Prop := (∃ t, e.key = .str p.1 t) ∧ ∃ f, e.val = .ref f ∧ KTup K f (p.2.map V.str)
def EntriesT (K : PySem.W.Frag) : List DictEntry → List (Str × List Str) → Prop
  | [], [] => True
  | e :: es, p :: ps => EntryT K e p ∧ EntriesT K es ps
  | _, _ => False
structure DictT (K : PySem.W.Frag) (w : World) (mg : Str → Option Value) (x : Str) (kvs : List (Str × List Str)) : Prop where
  ex : ∃ d es n, mg x = some (.ref d) ∧ L2.KDict K w d es n ∧ EntriesT K es.toList kvs
def lkT (kvs : List (Str × List Str)) (z : Str) : Option (List Str) := (kvs.find? fun p => p.1 == z).map (·.2)
theorem find_entriesT {K : PySem.W.Frag} {z : Str} : ∀ {es : List DictEntry} {kvs : List (Str × List Str)}, EntriesT K es kvs →
    match lkT kvs z with
    | some ws => ∃ a, ((es.find? fun e => Value.isStrOf z e.key).map (·.val)) = some (.ref a) ∧ KTup K a (ws.map V.str)
    | none => ((es.find? fun e => Value.isStrOf z e.key).map (·.val)) = none
  | [], [], _ => rfl
  | [], _ :: _, h => h.elim
  | _ :: _, [], h => h.elim
  | e :: es, p :: ps, ⟨⟨⟨t, hk⟩, f, hv, hm⟩, h⟩ => by
    have ih := find_entriesT (z := z) h
    unfold lkT at ih ⊢
    have hb : Value.isStrOf z e.key = (p.1 == z) := by
      rw [hk]
      rfl
    simp only [List.find?_cons, hb]
    cases hz : (p.1 == z) with
    | true => exact ⟨f, by show some e.val = _; rw [hv], hm⟩
    | false => exact ih
def ktIx (kvs : List (Str × List Str)) : D → Store → Res D := fun y st => match y with
  | .str z => match lkT kvs z with
    | some ws => .ok (.st (ws.map .str)) st
    | none => .stuck
  | _ => .stuck
def ktIn (kvs : List (Str × List Str)) : D → Store → Res D := fun y st => match y with
  | .str z => .ok (.bl (lkT kvs z).isSome) st
  | _ => .stuck
section
variable {X : Cx} {W : Wi} {x : Str} {p pos : Pos} {a b : Expr} {kvs : List (Str × List Str)} {fa fb : En → Store → Res D}
theorem e_ktix (h : DictT X.K X.w X.mg x kvs) (hg : Gl X x) (hb : EE X W b fb) (hs : L2.PlainIx b) (hdb : (x == ("__debug__" : Str)) = false := by decide) : EE X W (.Subscript (.Name x p) b pos) (v1 (ktIx kvs) fb) := by
  obtain ⟨d, es, n, hm, D, hE⟩ := h.ex
  refine ⟨fun pins s σ H Q I hq => Subscript_ (ld_glob I hg hm ?_ hdb)⟩
  obtain ⟨g, env, st, os, he, ho, hS, hq⟩ := hq
  refine thn (hb.run pins s σ H _ I ⟨g, env, st, os, he, ho, hS, Post.bind hq⟩) fun u s1 ⟨vx, H1, I1, r1, q1⟩ => ?_
  obtain ⟨g1, y, st1, s1', ry, S1, h1⟩ := q1
  unfold ktIx at h1
  split at h1
  · next z =>
    cases ry
    obtain ⟨t, rfl⟩ := r1
    have hf := find_entriesT (z := z) hE
    split at h1
    · next ws hl =>
      rw [hl] at hf
      obtain ⟨c, q1, q2⟩ := hf
      have hmp := PySem.W.mapOf_K (prog := X.prog) (w := X.w) I1.kIn D.at_ D.lit
      exact tail_any hmp.typeIs slot_dict_getitem.lookup (wpAny_getItem_of (strKind_is X.prog X.w z t) hmp (find_arr.trans q1) ⟨.ref c, H1, I1.tok _, rfl, h1.here (.kst q2 (repL_strs ws)) S1⟩) (hs _ _)
    · exact h1.elim
  · exact h1.elim
theorem e_ktin (h : DictT X.K X.w X.mg x kvs) (hg : Gl X x) (ha : EE X W a fa) (hdb : (x == ("__debug__" : Str)) = false := by decide) (hmk : behindInMarks .In (.Name x p) = false := by rfl) : EE X W (.Compare a [.In] [.Name x p] pos) (v1 (ktIn kvs) fa) := by
  obtain ⟨d, es, n, hm, D, hE⟩ := h.ex
  refine ⟨fun pins s σ H Q I hq => wpAny_Compare1 ?_ hmk⟩
  obtain ⟨g, env, st, os, he, ho, hS, hq⟩ := hq
  refine thn (ha.run pins s σ H _ I ⟨g, env, st, os, he, ho, hS, Post.bind hq⟩) fun u s1 ⟨vx, H1, I1, r1, q1⟩ => ld_glob I1 hg hm ?_ hdb
  obtain ⟨g1, y, st1, s1', ry, S1, h1⟩ := q1
  unfold ktIn at h1
  split at h1
  · next z =>
    cases ry
    obtain ⟨t, rfl⟩ := r1
    have hf := find_entriesT (z := z) hE
    have hmp := PySem.W.mapOf_K (prog := X.prog) (w := X.w) I1.kIn D.at_ D.lit
    refine wpAny_in_of (strKind_is X.prog X.w z t) D.low hmp ?_
    have e0 : (PySem.findBy Value.isStrOf es z).isSome = (lkT kvs z).isSome := by
      rw [find_arr]
      cases hl : lkT kvs z with
      | none => rw [hl] at hf; rw [show _ = _ from hf]; rfl
      | some f =>
        rw [hl] at hf
        obtain ⟨c, q1, _⟩ := hf
        rw [q1]
        rfl
    rw [e0]
    exact ⟨.bl _, H1, I1.tok _, rfl, h1.here (.bl _) S1⟩
  · exact h1.elim
theorem t_ktin (h : DictT X.K X.w X.mg x kvs) (hg : Gl X x) (ha : EE X W a fa) (hdb : (x == ("__debug__" : Str)) = false := by decide) (hmk : behindInMarks .In (.Name x p) = false := by rfl) : BE X W (.Compare a [.In] [.Name x p] pos) (vB (v1 (ktIn kvs) fa)) := by
  obtain ⟨d, es, n, hm, D, hE⟩ := h.ex
  refine ⟨fun pins s σ H Q I hq => wpAny_isTrue_Compare1 ?_ hmk⟩
  obtain ⟨g, env, st, os, he, ho, hS, hq⟩ := hq
  have hq := Post.toB hq
  refine thn (ha.run pins s σ H _ I ⟨g, env, st, os, he, ho, hS, Post.bind hq⟩) fun u s1 ⟨vx, H1, I1, r1, q1⟩ => ld_glob I1 hg hm ?_ hdb
  obtain ⟨g1, y, st1, s1', ry, S1, h1⟩ := q1
  unfold ktIn at h1
  split at h1
  · next z =>
    cases ry
    obtain ⟨t, rfl⟩ := r1
    have hf := find_entriesT (z := z) hE
    have hmp := PySem.W.mapOf_K (prog := X.prog) (w := X.w) I1.kIn D.at_ D.lit
    refine wpAny_in_of (strKind_is X.prog X.w z t) D.low hmp ?_
    have e0 : (PySem.findBy Value.isStrOf es z).isSome = (lkT kvs z).isSome := by
      rw [find_arr]
      cases hl : lkT kvs z with
      | none => rw [hl] at hf; rw [show _ = _ from hf]; rfl
      | some f =>
        rw [hl] at hf
        obtain ⟨c, q1, _⟩ := hf
        rw [q1]
        rfl
    rw [e0]
    obtain ⟨k', e', q'⟩ := h1.here (.bl _) S1
    cases e'
    exact wpAny_truthy_bool ⟨H1, I1.tok _, q'⟩
  · exact h1.elim
/-- tuple(range(a, b)) -/
def trng2 : D → D → Store → Res D := fun x y st => match x, y with
  | .int a, .int b => if -(2 ^ 62) ≤ a ∧ a < 2 ^ 62 ∧ -(2 ^ 62) ≤ b ∧ b < 2 ^ 62 ∧ (b - a).toNat ≤ 2 ^ 24 then .ok (.tup (rngD a (b - a).toNat)) st else .stuck
  | _, _ => .stuck
theorem e_tuprange2 {p2 pos2 : Pos} (hc : X.calm = true) (hg : Gl X "tuple") (hm : X.mg "tuple" = none) (hg2 : Gl X "range") (hm2 : X.mg "range" = none) (ha : EE X W a fa) (hb : EE X W b fb)
    (na2 : starEach [a, b] X.env = (false, eval a X.env) :: starEach [b] X.env := by rfl) (na3 : starEach [b] X.env = (false, eval b X.env) :: starEach [] X.env := by rfl) (hpl : (backTo pos2 (starEach [b] X.env)).any (·.1) = false := by rfl)
    (na : starEach [.Call (.Name "range" p2) [a, b] [] pos2] X.env = (false, eval (.Call (.Name "range" p2) [a, b] [] pos2) X.env) :: starEach [] X.env := by rfl) :
    EE X W (.Call (.Name "tuple" p) [.Call (.Name "range" p2) [a, b] [] pos2] [] pos) (v2 trng2 fa fb) := by
  refine ⟨fun pins s σ H Q I ⟨g, env, st, os, he, ho, hS, h⟩ => (pe_tupRg hc hg hm (prg_2 hg2 hm2 ha hb na2 na3 hpl) na).run pins s σ H Q I ⟨g, env, st, os, he, ho, hS, (Post.bind h).imp fun x H1 q => ?_⟩⟩
  obtain ⟨g1, dx, st1, s1, rx, S1, h1⟩ := q
  refine ⟨g1, env, st1, os, he.step' ho s1, ho.step s1, S1, (Post.bind h1).imp fun y H2 q => ?_⟩
  obtain ⟨g2, dy, st2, s2, ry, S2, h2⟩ := q
  unfold trng2 at h2
  split at h2
  · next i j =>
    split at h2
    · next hz =>
      cases ry
      have rx' := rx.ext s2.ext
      cases rx'
      exact ⟨i, j, rfl, rfl, hz, fun p hp => h2.newTup S2 (rep_rng i j) hp⟩
    · exact (h2 : False).elim
  · exact (h2 : False).elim
end
section
variable {st : Store} {P : D → Store → Prop} {env : En}
theorem go_inK {z : Str} {ws : List Str} (q : P (.bl (ws.any fun w => w == z)) st) : (inK (.str z) (.st (ws.map .str)) st).holds E P := by
  show Res.holds (match strsOf (ws.map D.str) with
    | some ws => .ok (.bl (ws.any fun w => w == z)) st
    | none => .stuck) E P
  rw [strsOf_map]
  exact q
theorem go_notinT {z : Str} {ws : List Str} {ys : List D} (h : strsOf ys = some ws) (q : P (.bl (!ws.any fun w => w == z)) st) : (notinT (.str z) (.tup ys) st).holds E P := by
  show Res.holds (match strsOf ys with
    | some ws => .ok (.bl (!ws.any fun w => w == z)) st
    | none => .stuck) E P
  rw [h]
  exact q
theorem go_ktIn {kvs : List (Str × List Str)} {z : Str} {o : Option (List Str)} (h : lkT kvs z = o) (q : P (.bl o.isSome) st) : (ktIn kvs (.str z) st).holds E P := by
  subst h
  exact q
theorem go_ktIx {kvs : List (Str × List Str)} {z : Str} {ws : List Str} (h : lkT kvs z = some ws) (q : P (.st (ws.map .str)) st) : (ktIx kvs (.str z) st).holds E P := by
  show Res.holds (match lkT kvs z with
    | some ws => .ok (.st (ws.map .str)) st
    | none => .stuck) E P
  rw [h]
  exact q
theorem go_trng2 {a b : Int} (h : -1000000 ≤ a ∧ a ≤ 1000000 ∧ -1000000 ≤ b ∧ b ≤ 1000000) (q : P (.tup (rngD a (b - a).toNat)) st) : (trng2 (.int a) (.int b) st).holds E P := by
  unfold trng2
  have e : -(2 ^ 62) ≤ a ∧ a < 2 ^ 62 ∧ -(2 ^ 62) ≤ b ∧ b < 2 ^ 62 ∧ (b - a).toNat ≤ 2 ^ 24 := by
    have h24 : (2 : Nat) ^ 24 = 16777216 := by decide
    omega
  simp only [if_pos e]
  exact q
theorem go_gTpK {k : Nat} {us : List D → En → Store → ResS} {ds : List D} {nx br ct : NX} {rt : RT} (hl : ds.length = k) (q : (us ds env st).runs Ee nx rt br ct) : (gTpK k us (.st ds) env st).runs Ee nx rt br ct := by
  unfold gTpK
  simp only [if_pos hl]
  exact q
theorem go_dc0 {fi : En → Store → Res (List D)} {p : Pat} {vs : List Nat} {tt : En → Store → Res Bool} {tk te : En → Store → Res D} {PS : Slot → Store → Prop} (q : (fi env st).holds E fun ds st => (dcL p tt tk te (wipeE env vs) ds [] st).holds noE fun kvs st => PS (.od false kvs) st) : (vDc fi p vs tt tk te env st).holds E PS := by
  unfold vDc
  rw [Res.holds_bind]
  refine q.imp fun ds st h => ?_
  refine Res.holds.any ?_
  rw [Res.holds_bind0]
  exact Res.holds.imp h fun kvs st h => h
end
end EV

set_option Elab.async false
set_option linter.all false
set_option autoImplicit false
set_option maxRecDepth 100000
set_option maxHeartbeats 1000000
/-! comprehensions over a list of the store; while -/
namespace EV
open PySem PySem.Spec PyProof.Rows L2
variable {E : ErP} {Ee : ErS}
def lcN (n : Nat) (p : Pat) (te : En → Store → Res D) (env : En) : Nat → Nat → Store → Res (List D)
  | 0, _, _ => .stuck
  | f + 1, i, st => match st[n]? with
    | some (.cell (.ol ds)) => match ds[i]? with
      | none => .ok [] st
      | some d => match Pat.bind p d with
        | none => .stuck
        | some bs => (te (bindE env bs) st).bind0 fun y st => (lcN n p te env f (i + 1) st).bind0 fun ys st => .ok (y :: ys) st
    | _ => .stuck
def vLcR (fo : En → Store → Res D) (p : Pat) (vs : List Nat) (te : En → Store → Res D) : En → Store → Res Slot := fun env st => (fo env st).bind fun o st => match o with
  | .ref n => (lcN n p te (wipeE env vs) 100000 0 st).bind0 mkLst
  | _ => .stuck
section
variable {X : Cx} {W : Wi}
/-- an iterator of a list that may change -/
def iLive (K : PySem.W.Frag) (te : TE) : TI := fun σ H R => te σ H fun v H1 => ∃ a vs, v = .ref a ∧ SqL K H1 a vs ∧ R (Itl K a) H1
theorem pi_live {tg e : Expr} {te : TE} (he : PE X e te) : PI X tg e (iLive X.K te) := by
  refine ⟨fun pins s σ H R I h => thn (he.run pins s σ H _ I h) fun v s1 ⟨x, H1, I1, r1, a, vs, e1, hq, q⟩ => ?_⟩
  cases e1
  cases r1
  obtain ⟨its, rv, p, hz⟩ := I1.list hq
  refine wpAny_pyIter_list p.isList ⟨s1.heap.objs.size, [s1.heap.objs.size], _, _, H1, rfl, I1.kept (t' := s1.toks) fun b o e => Heap.get?_push_of_some _ e, turn_list a _, ⟨_, Heap.get?_push_size _ rfl, rfl, rfl⟩, fun b hb => ?_, q⟩
  have e : b = s1.heap.objs.size := by simpa using hb
  rw [e]
  exact I1.fpOk (Nat.le_refl _) (I1.hok.fresh (Nat.le_refl _))
theorem SOk.liveAt {K : PySem.W.Frag} {mg : Str → Option Value} {g : G} {st : Store} {H : Hp} (S : SOk K mg g st H) {n : Nat} {a : Addr} {ds : List D} (r : g.rs[n]? = some a) (e : st[n]? = some (.cell (.ol ds))) : ∃ vs, SqL K H a vs ∧ RepL K mg g ds vs := by
  have e' : rowOf st (.ref n) = some ds := by
    unfold rowOf
    simp only [e]
  obtain ⟨a', vs, h1, h2, h3⟩ := S.rowAt (.ref r) e'
  cases h1
  exact ⟨vs, h2, h3⟩
/-- a turn of the loop: the list at D0 holds acc -/
def LnAt (X : Cx) (g1 : G) (env : En) (σw : L2.St) (D0 : Addr) (Q : VK) (n : Nat) (p : Pat) (te : En → Store → Res D) (f i : Nat) (H : Hp) : Prop :=
  ∃ g st os acc vs, Ext g1 g ∧ EnvOk X.K X.mg g H env σw os ∧ OsOk g H os ∧ SOk X.K X.mg g st H ∧ H D0 = some (.lst vs) ∧ RepL X.K X.mg g acc vs ∧ g.kp D0 = none ∧ D0 ∉ g.fp ∧ D0 ∉ os ∧
    ∃ ys st', lcN n p te env f i st = .ok ys st' ∧ (acc ++ ys).length ≤ sizeLine ∧
      ∀ g' H' vs', Step g H [D0] g' H' [D0] → H' D0 = some (.lst vs') → RepL X.K X.mg g' (acc ++ ys) vs' → g'.kp D0 = none → D0 ∉ g'.fp → SOk X.K X.mg g' st' H' → Q (.ref D0) H'
theorem lcR_reads {own : List (Str × Nat)} {p : Pat} {fo te : En → Store → Res D} {σ : L2.St} {H : Hp} {Q : VK} (hp : ∀ i ∈ p.slots, i ∈ own.map (·.2))
    (h : tSl X.K X.mg W (vLcR fo p (own.map (·.2)) te) σ H Q) : tLc (iLive X.K (tE X.K X.mg W fo)) (Pat.tg X.K p) (tT X.K X.mg W0 ttYes) (tE X.K X.mg W0 te) (own.map (·.2)) σ H Q := by
  obtain ⟨g, env, st, os, hv, ho, hS, h⟩ := h
  refine ⟨g, env, st, os, hv, ho, hS, (Post.bindS h).imp fun v H1 q => ?_⟩
  obtain ⟨g1, o, st1, s1, ro, S1, h1⟩ := q
  split at h1
  · next n =>
    cases ro with
    | @ref _ a ha =>
      generalize hl : lcN n p te (wipeE env (own.map (·.2))) 100000 0 st1 = r2 at h1
      cases r2 with
      | stuck => exact (h1 : False).elim
      | er x st2 => exact (h1 : False).elim
      | ok ys st2 =>
        have h3 : PostS X.K X.mg W g1 H1 σ (if ys.length ≤ sizeLine then .ok (.ol ys) st2 else .stuck) Q := h1
        split at h3
        · next hz =>
          have hcell : ∃ ds, st1[n]? = some (.cell (.ol ds)) := by
            have hl' := hl
            rw [show (100000 : Nat) = 99999 + 1 from rfl] at hl'
            unfold lcN at hl'
            split at hl'
            · next ds e => exact ⟨ds, e⟩
            · cases hl'
          obtain ⟨ds0, e0⟩ := hcell
          obtain ⟨vs0, hq0, _⟩ := S1.liveAt ha e0
          refine ⟨a, vs0, rfl, hq0, fun D0 hD0 => ?_⟩
          have hv1 := hv.step' ho s1
          have ho1 := ho.step s1
          obtain ⟨osw, e1, e2, e3⟩ := hv1.wipe ho1 (own.map (·.2))
          have ho2 := ho1.sub e2 e3
          obtain ⟨S2, s2, o2⟩ := S1.newO (o := .lst []) hD0
          have hDos : D0 ∉ osw := fun z => ho2.th D0 z hD0
          refine ⟨fun i m H => LnAt X g1 (wipeE env (own.map (·.2))) (L2.wipe σ (own.map (·.2))) D0 Q n p te m i H, ⟨100000, g1, st1, osw, [], [], Ext.refl _, e1.step (Ext.refl _) fun a ha => upd_ne (by rintro rfl; exact hDos ha), ⟨ho2.nd, fun a ha => by rw [upd_ne (by rintro rfl; exact hDos ha)]; exact ho2.th a ha, ho2.kp, ho2.fp⟩, S2, upd_same, .nil, S1.kpn hD0, S1.fpn hD0, hDos, ys, st2, hl, by simpa using hz, fun g' H' vs' st' hd' rl kp fp S' => ?_⟩, ?_⟩
          · exact h3 (.ref D0) g' H' [D0] (s2.trans st') (osOk_one hd' kp fp) (.ol hd' (by simpa using rl)) S'
          · rintro i m H2 ⟨g2, st3, os2, acc, vs, x2, hv2, ho2, S2, hD, rl, kp, fp, hDo, ys2, st4, hl2, hz2, fin⟩
            cases m with
            | zero => cases hl2
            | succ m =>
              unfold lcN at hl2
              split at hl2
              · next ds ed =>
                obtain ⟨us, hq2, rl2⟩ := S2.liveAt (x2.rs _ _ ha) ed
                split at hl2
                · next hnone =>
                  cases hl2
                  have hle : us.length ≤ i := by
                    rw [← rl2.length]
                    exact List.getElem?_eq_none_iff.mp hnone
                  exact .inl ⟨⟨us, hq2, hle⟩, fin g2 H2 vs Step.refl hD (by simpa using rl) kp fp S2⟩
                · next d hd =>
                  obtain ⟨w, hw1, hw2⟩ := rl2.get hd
                  refine .inr ⟨⟨us, w, hq2, hw1⟩, fun H => LnAt X g1 (wipeE env (own.map (·.2))) (L2.wipe σ (own.map (·.2))) D0 Q n p te m (i + 1) H, fun H' nx => ⟨m, Nat.lt_succ_self m, nx⟩, fun x H3 y => ?_⟩
                  obtain ⟨rfl, hy⟩ := y
                  have hx := hy us hq2
                  rw [hw1] at hx
                  cases hx
                  split at hl2
                  · cases hl2
                  · next bs hb =>
                    obtain ⟨ws, b1, b2⟩ := Pat.reads S2 p d _ bs hb hw2
                    refine b2 _ _ ?_
                    have hsl : ∀ j ∈ ws.map (·.1), j ∈ own.map (·.2) := fun j hj => hp j (by rw [← Pat.bind_slots p _ bs hb, b1.slots]; exact hj)
                    refine ⟨(wipe_bind hsl).trans wipe_idem, ?_⟩
                    obtain ⟨os3, q1, q2, q3⟩ := EnvOk.binds b1 hv2 ho2
                    refine ⟨g2, bindE (wipeE env (own.map (·.2))) bs, st3, os3, q1, q3, S2, (Post.bind0 (β := Bool) (γ := Bool) (N := fun c' st' => c' = true ∧ st' = st3) (r := ttYes (bindE (wipeE env (own.map (·.2))) bs) st3) ⟨rfl, rfl⟩).imp fun c' H4 q => ?_⟩
                    obtain ⟨g4, c2, st6, s4, rb, S4, rfl, rfl⟩ := q
                    cases rb
                    have hv4 := q1.step' q3 s4
                    have ho4 := q3.step s4
                    have hw4 := hv2.step' ho2 s4
                    have how4 := ho2.step s4
                    have x4 := x2.trans s4.ext
                    have kD : ∀ {g' : G} {H' : Hp}, Step g2 H3 [] g' H' [] → H' D0 = some (.lst vs) ∧ g'.kp D0 = none ∧ D0 ∉ g'.fp := fun {g' H'} z => by
                      refine ⟨(z.fr D0 (by rw [hD]; simp) fp (by simp)).trans hD, ?_, fun hm => ?_⟩
                      · cases e : g'.kp D0 with
                        | none => rfl
                        | some u =>
                          rcases z.nk D0 (by rw [e]; simp) with q | q | q | q
                          · exact absurd kp q
                          · rw [hD] at q; cases q
                          · exact nomatch q
                          · exact absurd q fp
                      · rcases z.nf D0 hm with q | q | q
                        · exact fp q
                        · rw [hD] at q; cases q
                        · exact nomatch q
                    refine iteT ?_
                    obtain ⟨y1, st7, hte, hl4⟩ := bind0_ok hl2
                    obtain ⟨yr, st8, hlr, hl5⟩ := bind0_ok hl4
                    cases hl5
                    refine ⟨g4, bindE (wipeE env (own.map (·.2))) bs, st6, os3, hv4, ho4, S4, (Post.bind0 (β := V) (γ := V) (N := fun y' st' => y' = y1 ∧ st' = st7) (by rw [hte]; exact ⟨rfl, rfl⟩)).imp fun yv H5 q => ?_⟩
                    obtain ⟨g5, y2, st9, s5, ry, S5, rfl, rfl⟩ := q
                    have s45 := s4.trans s5
                    obtain ⟨d1, d2, d3⟩ := kD s45
                    have rl5 := (rl.ext s4.ext).ext s5.ext
                    have hlen : vs.length = acc.length := rl.length.symm
                    refine ⟨vs, d1, by simp only [List.length_append, List.length_cons] at hz2; omega, ?_⟩
                    have hw5 := hw4.step' how4 s5
                    have how5 := how4.step s5
                    have hne : ∀ a ∈ os2, a ≠ D0 := fun a ha z => hDo (z ▸ ha)
                    refine ⟨g5, st9, os2, acc ++ [y2], vs ++ [yv], x4.trans s5.ext, hw5.step (Ext.refl _) fun a ha => upd_ne (hne a ha), ⟨how5.nd, fun a ha => by rw [upd_ne (hne a ha)]; exact how5.th a ha, how5.kp, how5.fp⟩, S5.wrO d2 d3, upd_same, rl5.append (.cons ry .nil), d2, d3, hDo, yr, st4, hlr, by simpa using hz2, fun g' H' vs' st' hd' rl' kp' fp' S' => ?_⟩
                    exact fin g' H' vs' (((s4.trans s5).frame [D0]).trans ((Step.wrO (by simp) (by rw [d1]; simp) (fun _ h => h)).trans st')) hd' (by simpa using rl') kp' fp' S'
              · cases hl2
        · exact (h3 : False).elim
  · exact (h1 : False).elim
theorem s_lcR {elt tg iter : Expr} {scope sc0 : Scope} {N0 : List Str} {own : List (Str × Nat)} {spos : Pos} {p : Pat} {fo te : En → Store → Res D} (hc : X.calm = true) (hN : X.N.Nodup) (hi : EE X W iter fo) (ok : blkC N0 sc0 scope own = true) (hN0 : X.N = N0) (hs0 : X.env.scope = sc0) (hp : ∀ i ∈ p.slots, i ∈ own.map (·.2))
    (hg : ∀ (s : Shared) (H : Hp) (C : Addr) (cl : List (Str × Addr)) (fp : List Addr), PG (X.blk s H scope (compEnvC scope cl C X.env) fp) tg (Pat.tg X.K p))
    (he : ∀ (s : Shared) (H : Hp) (C : Addr) (cl : List (Str × Addr)) (fp : List Addr), EE (X.blk s H scope (compEnvC scope cl C X.env) fp) W0 elt te) (hs : ∀ x, foldedSetIterable iter X.env x = pure x := by intro _; rfl) : SE X W (.ListComp elt [⟨tg, iter, [], 0⟩] scope spos) (vLcR fo p (own.map (·.2)) te) :=
  ⟨fun pins s σ H Q I h => (pe_lc hc hN (pi_live hi) (blkOk_by (by rw [hN0, hs0]; exact ok)) hg ts_nil he hs).run pins s σ H Q I (lcR_reads (own := own) hp h)⟩
end
theorem go_while {t : En → Store → Res Bool} {b : En → Store → ResS} {nx br ct : NX} {rt : RT} (I : Nat → En → Store → Prop)
    (hs : ∀ k env st, I k env st → (t env st).holds (atE Ee env) fun c st => (c = true → ∃ j, j < k ∧ (b env st).runs Ee (I j) rt nx (I j)) ∧ (c = false → nx env st)) : ∀ {n k : Nat} {env : En} {st : Store}, k < n → I k env st → (whL t b n env st).runs Ee nx rt br ct
  | 0, k, _, _, hk, _ => absurd hk (Nat.not_lt_zero k)
  | n + 1, k, env, st, hk, h0 => by
    show (Res.go env (t env st) fun c st => if c = true then (match b env st with
      | .nx env st => whL t b n env st
      | .ct env st => whL t b n env st
      | .br env st => .nx env st
      | r => r) else .nx env st).runs Ee nx rt br ct
    refine go_go ((hs k env st h0).imp fun c st1 h => ?_)
    cases c with
    | false => exact h.2 rfl
    | true =>
      rw [if_pos rfl]
      obtain ⟨j, hj, hr⟩ := h.1 rfl
      revert hr
      generalize b env st1 = r
      intro hr
      cases r with
      | nx e s => exact go_while I hs (by omega) hr
      | ct e s => exact go_while I hs (by omega) hr
      | br e s => exact hr
      | rt d s => exact hr
      | er e e' s => exact hr
      | stuck => exact hr
theorem go_lcR {fo : En → Store → Res D} {p : Pat} {vs : List Nat} {te : En → Store → Res D} {env : En} {st : Store} {PS : Slot → Store → Prop} {n : Nat} {ds : List D} (g : D → D) (hl : ds.length ≤ 1000)
    (q : (fo env st).holds E fun o s => o = .ref n ∧ s[n]? = some (.cell (.ol ds)) ∧ (∀ d ∈ ds, ∃ bs, Pat.bind p d = some bs ∧ (te (bindE (wipeE env vs) bs) s).holds noE fun y s' => y = g d ∧ s' = s) ∧ PS (.ol (ds.map g)) s) : (vLcR fo p vs te env st).holds E PS := by
  unfold vLcR
  rw [Res.holds_bind]
  refine q.imp fun o s h => ?_
  obtain ⟨rfl, e, hb, hP⟩ := h
  have key : ∀ (k i f : Nat), k + i = ds.length → k < f → lcN n p te (wipeE env vs) f i s = .ok ((ds.drop i).map g) s := by
    intro k
    induction k with
    | zero =>
      intro i f hi hf
      cases f with
      | zero => exact absurd hf (Nat.not_lt_zero _)
      | succ f =>
        unfold lcN
        simp only [e]
        rw [List.getElem?_eq_none (by omega), List.drop_eq_nil_of_le (by omega)]
        rfl
    | succ k ih =>
      intro i f hi hf
      cases f with
      | zero => exact absurd hf (Nat.not_lt_zero _)
      | succ f =>
        have hlt : i < ds.length := by omega
        unfold lcN
        simp only [e]
        rw [List.getElem?_eq_getElem hlt]
        obtain ⟨bs, h1, h2⟩ := hb ds[i] (List.getElem_mem hlt)
        simp only [h1]
        obtain ⟨y, s', e1, rfl, rfl⟩ := Res.holds_ex h2
        rw [e1]
        show (lcN n p te (wipeE env vs) f (i + 1) s').bind0 _ = _
        rw [ih (i + 1) f (by omega) (by omega), List.drop_eq_getElem_cons hlt, List.map_cons]
        rfl
  show Res.holds ((lcN n p te (wipeE env vs) 100000 0 s).bind0 mkLst) E PS
  rw [key ds.length 0 100000 (by omega) (by omega), List.drop_zero]
  exact go_mkLst (by rw [List.length_map]; exact hl) hP
end EV

set_option Elab.async false
set_option linter.all false
set_option autoImplicit false
set_option maxRecDepth 100000
set_option maxHeartbeats 1000000
/-! own exceptions: made with their fields, raised -/
namespace EV
open PySem PySem.Spec PyProof.Rows L2
/-- a built-in class over which an own exception may stand -/
def XBase (newId : String) (bm : List Value) : Prop := ∃ B initId, ExcBaseFacts B newId initId bm ∧ StoreFacts B bm "object.__setattr__" "object"
theorem xb_Type : XBase "TypeError.__new__" [.type "TypeError", .type "Exception", .type "BaseException", .type "object"] := ⟨_, _, PySem.F.excBase_TypeError, PySem.F.store_TypeError⟩
theorem xb_Value : XBase "ValueError.__new__" [.type "ValueError", .type "Exception", .type "BaseException", .type "object"] := ⟨_, _, PySem.F.excBase_ValueError, PySem.F.store_ValueError⟩
theorem xb_Runtime : XBase "RuntimeError.__new__" [.type "RuntimeError", .type "Exception", .type "BaseException", .type "object"] := ⟨_, _, PySem.F.excBase_RuntimeError, PySem.F.store_RuntimeError⟩
theorem xb_Arithmetic : XBase "ArithmeticError.__new__" [.type "ArithmeticError", .type "Exception", .type "BaseException", .type "object"] := ⟨_, _, PySem.F.excBase_ArithmeticError, PySem.F.store_ArithmeticError⟩
theorem xb_Overflow : XBase "OverflowError.__new__" [.type "OverflowError", .type "ArithmeticError", .type "Exception", .type "BaseException", .type "object"] := ⟨_, _, PySem.F.excBase_OverflowError, PySem.F.store_OverflowError⟩
theorem xb_Lookup : XBase "LookupError.__new__" [.type "LookupError", .type "Exception", .type "BaseException", .type "object"] := ⟨_, _, PySem.F.excBase_LookupError, PySem.F.store_LookupError⟩
theorem xb_Index : XBase "IndexError.__new__" [.type "IndexError", .type "LookupError", .type "Exception", .type "BaseException", .type "object"] := ⟨_, _, PySem.F.excBase_IndexError, PySem.F.store_IndexError⟩
/-- what the written part says of an own exception class at C -/
structure XcC (K : PySem.W.Frag) (C : Addr) (fl : List Str) : Prop where
  bs : ∃ newId bm, XBase newId bm ∧ PySem.W.excInitIn K C bm newId = true ∧ PySem.W.excOver K C bm = true
  sa : PySem.W.findIn K (.ref C) "__setattr__" = some (some (.builtin "object.__setattr__"))
  rd : XfC K C
  no : ∀ f ∈ fl, PySem.W.findIn K (.ref C) f = some none
  ty : PySem.W.typeIn K (.ref C) = some (.type "type")
  kp : PySem.W.keepIn K (.ref C) = true
section
variable {prog : Program} {w : World} {A : Around} {R : Result → Shared → Prop} {hp : Heap} {g : Array GenState} {d : Drawn} {t : Nat} {os : OsState} {K : PySem.W.Frag} {name : Str} {tk : Tok} {v : Value} {x C : Addr} {fv : Array Value} {B : String} {bm : List Value}
/-- the first store lays the dict -/
theorem xosa_new (SF : StoreFacts B bm "object.__setattr__" "object") (X : K.In hp) (hx : hp.get? x = some { cls := .ref C, data := .fields fv }) (ho : PySem.W.excOver K C bm = true) (hd : PySem.W.hasDictIn K C = true) (ha : PySem.W.findIn K (.ref C) name = some none)
    (hq : ∀ h' tk' dx, (∀ b o, b ≠ x → hp.get? b = some o → h'.get? b = some o) → hp.objs.size ≤ dx → dx ≠ x → h'.get? x = some { cls := .ref C, dict := some dx, data := .fields fv } →
      h'.Ns1 dx (fun y => if y = name then some v else none) → R (.ok (.ret .none)) ⟨h', g, d, tk', os⟩) : codeAny (model prog w) A (.call (.builtin "object.__setattr__") ⟨[.ref x, .str name tk, v], []⟩) R ⟨hp, g, d, t, os⟩ := by
  refine PySem.W.osa_openX (s := ⟨hp, g, d, t, os⟩) (ox := { cls := .ref C, data := .fields fv }) (od := none) (r := none) SF X ⟨hx, rfl, rfl, trivial⟩ ho (by unfold PySem.W.takerIn; rw [ha]; rfl) fun b => ?_
  obtain ⟨cd, hc, hh⟩ := PySem.W.any_some hd
  have hcls : PySem.W.Looks (model prog w) hp (classData C) cd := PySem.W.looks_clsIn X hc
  have ne : x ≠ hp.objs.size := Nat.ne_of_lt (Heap.lt_size hx)
  show wpAny _ _ (Builtin.ObjectAttr.storeInOwnDict (.ref x) (.ref C) (.str name tk) name v b) _ _ _
  obtain ⟨nm, bs, mro, ns, qn, hD, sn, sb, ab, col, del⟩ := cd
  dsimp only at hh
  subst hh
  unfold Builtin.ObjectAttr.storeInOwnDict Builtin.ObjectAttr.ownDictForStores
  repeat (first | with_reducible refine HandSPX.store_in_new ?_ ?_ | with_reducible refine wpAny_loadPart_at hx ?_ | with_reducible refine hcls.at ?_ | wp_step)
  · exact ⟨_, #[], _, (Heap.get?_update_ne _ _ _ _ ne.symm).trans (Heap.get?_push_at rfl rfl), rfl, (fun e he => absurd he (by simp)), fun _ => rfl⟩
  · intro h' tk' hn hs
    have hx1 := Heap.get?_push_of_some { cls := .type "dict", data := .dict #[] } hx
    refine hq h' tk' hp.objs.size (fun b o hb hg => ?_) (Nat.le_refl _) ne.symm ?_ hn
    · exact (hs.2 b (Nat.ne_of_lt (Heap.lt_size hg))).trans ((Heap.get?_update_ne _ _ _ _ hb).trans (Heap.get?_push_of_some _ hg))
    · exact (hs.2 x ne).trans (Heap.get?_update_self _ hx1 rfl)
/-- a later store -/
theorem xosa_old {dx : Addr} {m0 : Str → Option Value} {nl : List Str} (SF : StoreFacts B bm "object.__setattr__" "object") (X : K.In hp) (hx : hp.get? x = some { cls := .ref C, dict := some dx, data := .fields fv }) (hns : hp.Ns1 dx m0) (hw : Within m0 nl) (hz : nl.length ≤ 1000)
    (ho : PySem.W.excOver K C bm = true) (hd : PySem.W.hasDictIn K C = true) (ha : PySem.W.findIn K (.ref C) name = some none)
    (hq : ∀ h' tk', (∀ b o, b ≠ dx → hp.get? b = some o → h'.get? b = some o) → h'.Ns1 dx (fun y => if y = name then some v else m0 y) → R (.ok (.ret .none)) ⟨h', g, d, tk', os⟩) : codeAny (model prog w) A (.call (.builtin "object.__setattr__") ⟨[.ref x, .str name tk, v], []⟩) R ⟨hp, g, d, t, os⟩ := by
  obtain ⟨oD, esD, epD, hoD, hdD, _⟩ := hns.count hw
  refine PySem.W.osa_openX (s := ⟨hp, g, d, t, os⟩) (ox := { cls := .ref C, dict := some dx, data := .fields fv }) (od := some oD) (r := none) SF X ⟨hx, rfl, rfl, hoD⟩ ho (by unfold PySem.W.takerIn; rw [ha]; rfl) fun b => ?_
  obtain ⟨cd, hc, hh⟩ := PySem.W.any_some hd
  have hcls : PySem.W.Looks (model prog w) hp (classData C) cd := PySem.W.looks_clsIn X hc
  show wpAny _ _ (Builtin.ObjectAttr.storeInOwnDict (.ref x) (.ref C) (.str name tk) name v b) _ _ _
  obtain ⟨nm, bs, mro, ns, qn, hD, sn, sb, ab, col, del⟩ := cd
  dsimp only at hh
  subst hh
  unfold Builtin.ObjectAttr.storeInOwnDict Builtin.ObjectAttr.ownDictForStores
  repeat (first | with_reducible refine OEX.store_in_old hns hw hz ?_ | with_reducible refine wpAny_loadPart_at hx ?_ | with_reducible refine hcls.at ?_ | wp_step)
  intro h' tk' hn hs
  exact hq h' tk' (fun b o hb hg => (hs.2 b hb).trans hg) hn
end

section
variable {X : Cx} {pins : List (Addr × Obj)} {σ : L2.St} {H : Hp} {s : Shared} {a C dx : Addr} {f : Str} {y : V} {u : Value} {fs : List (Str × V)} {fl : List Str} {Q : Unit → Shared → Prop} {E : Value → Shared → Prop} {A : Around}
theorem xst_new (T : XcC X.K C fl) (I : L2.Inv X pins σ H s) (e : H a = some (exo a C none)) (hf : f ∈ fl) (ry : RelV y u)
    (h : ∀ dx s', H dx = none → dx ≠ a → L2.Inv X pins σ (upd (upd H dx (exd dx [(f, y)])) a (exo a C (some dx))) s' → Q () s') : wpAny (model X.prog X.w) A (setAttr (.ref a) f u) Q E s := by
  obtain ⟨newId, bm, ⟨B, initId, FB, SF⟩, hin, hov⟩ := T.bs
  obtain ⟨t1, ho⟩ := exo_at I.hok e
  obtain ⟨hp, g, d, t, os⟩ := s
  refine PySem.W.set_plain I.kIn (od := none) (ox := { cls := .ref C, dict := none, data := .fields #[.ref t1, .none, .none, .none, .bool false, .none] }) ⟨ho, rfl, rfl, trivial⟩ T.sa ?_
  refine xosa_new SF I.kIn ho hov T.rd.hdC (T.no f hf) fun h' tk' dx k dn dne hx hn => ?_
  have hnd : H dx = none := I.hok.fresh dn
  have old : ∀ {b : Addr} {o : Obj}, hp.get? b = some o → b ≠ dx := fun {b o} q z => absurd (Heap.lt_size q) (by rw [z]; exact Nat.not_lt.mpr dn)
  have nota : ∀ {b : Addr}, H b = none → b ≠ a := fun {b} n z => by
    rw [z, e] at n
    exact nomatch n
  have U : Un X.fs [] H (upd (upd H dx (exd dx [(f, y)])) a (exo a C (some dx))) hp h' := by
    constructor
    · exact fun b o q n _ _ => k b o (nota n) q
    · exact fun b o q n _ _ => ⟨o.slots, k b o (nota n) q⟩
    · intro b o q n _
      rw [upd_ne (nota n), upd_ne (old q)]
      exact n
    · intro b o q _
      by_cases hb : b = a
      · rw [hb]
        exact ⟨_, hx⟩
      · exact ⟨o, k b o hb q⟩
    · intro b xs q
      rw [upd_ne (at_ne e q exo_tup)]
      rw [upd_ne (ne_of_none q hnd)]
      exact q
    · intro b o v q
      rw [upd_ne (at_ne e q exo_frz)]
      rw [upd_ne (ne_of_none q hnd)]
      exact q
    · intro b ps q
      refine ⟨#[], ?_⟩
      rw [upd_ne (at_ne e q exo_tbl), upd_ne (ne_of_none q hnd)]
      rw [q]
      simp
  refine h dx _ hnd dne (I.un (t' := tk') U fun b o q => ?_)
  by_cases hb : b = a
  · rw [hb, upd_same] at q
    rw [hb]
    cases q
    exact exo_ok hx
  rw [upd_ne hb] at q
  by_cases hd : b = dx
  · rw [hd, upd_same] at q
    rw [hd]
    cases q
    exact exd_ok hn (relO_put (fs := []) ry fun _ => trivial)
  rw [upd_ne hd] at q
  refine (I.hok b o q).stay (fun c v hc z => k c v ?_ z) (fun c hc => ?_) (fun c xs hc => ?_)
  · rcases hc with rfl | hc
    · exact hb
    · exact at_ne e hc exo_own
  · rw [upd_ne (at_ne e hc exo_own)]
    rw [upd_ne (ne_of_none hc hnd)]
    exact hc
  · rw [upd_ne (at_ne e hc exo_tup)]
    rw [upd_ne (ne_of_none hc hnd)]
    exact hc
theorem xst_old (T : XcC X.K C fl) (I : L2.Inv X pins σ H s) (e : H a = some (exo a C (some dx))) (ed : H dx = some (exd dx fs)) (hl : fs.length ≤ 900) (hf : f ∈ fl) (ry : RelV y u)
    (h : ∀ s', L2.Inv X pins σ (upd H dx (exd dx ((f, y) :: fs))) s' → Q () s') : wpAny (model X.prog X.w) A (setAttr (.ref a) f u) Q E s := by
  obtain ⟨newId, bm, ⟨B, initId, FB, SF⟩, hin, hov⟩ := T.bs
  obtain ⟨t1, ho⟩ := exo_at I.hok e
  obtain ⟨mA, hns, rel⟩ := exd_at I.hok ed
  have hw := within_of rel
  obtain ⟨oD, _, _, hoD, _, _⟩ := hns.count hw
  obtain ⟨hp, g, d, t, os⟩ := s
  refine PySem.W.set_plain I.kIn (od := some oD) (ox := { cls := .ref C, dict := some dx, data := .fields #[.ref t1, .none, .none, .none, .bool false, .none] }) ⟨ho, rfl, rfl, hoD⟩ T.sa ?_
  refine xosa_old SF I.kIn ho hns hw (by rw [List.length_map]; omega) hov T.rd.hdC (T.no f hf) fun h' tk' k hn => ?_
  have hd : ∃ o, h'.get? dx = some o := by
    obtain ⟨o, _, _, e', _⟩ := hn
    exact ⟨o, e'⟩
  exact h _ (I.write (t' := tk') (x := dx) (e := dx) (o := exd dx ((f, y) :: fs)) (by rw [ed]; exact trivial) (.inl rfl) k hd (exd_ok hn (relO_put ry rel)))
end
/-- self.f = e on an exception that is being made -/
def tXst (K : PySem.W.Frag) (f : Str) (to te : TE) : TS := fun D σ H => te σ H fun y H1 => to σ H1 fun x H2 => ∃ a C fl, x = .ref a ∧ XcC K C fl ∧ f ∈ fl ∧
  ((H2 a = some (exo a C none) ∧ ∀ dx, H2 dx = none → dx ≠ a → D.nx σ (upd (upd H2 dx (exd dx [(f, y)])) a (exo a C (some dx)))) ∨
    ∃ dx fs, H2 a = some (exo a C (some dx)) ∧ H2 dx = some (exd dx fs) ∧ fs.length ≤ 900 ∧ D.nx σ (upd H2 dx (exd dx ((f, y) :: fs))))
theorem ps_xst {X : Cx} {o e : Expr} {to te : TE} {f : Str} {p pos : Pos} (ho : PE X o to) (he : PE X e te) (hs : swapsWith e (some (.Attribute o f p)) pos.line X.env = pure false := by rfl) : PS X (.Assign [.Attribute o f p] e pos) (tXst X.K f to te) := by
  refine ⟨fun pins s σ H D I h => plainObj_wpAny_Assign_Attribute (thn (he.run pins s σ H _ I h) fun v s1 ⟨y, H1, I1, r1, q1⟩ => thn (ho.run pins s1 σ H1 _ I1 q1) fun u s2 ⟨x, H2, I2, r2, a, C, fl, ex, T, hf, q⟩ => ?_) hs⟩
  subst ex
  cases r2
  rcases q with ⟨ea, q⟩ | ⟨dx, fs, ea, ed, hl, q⟩
  · exact xst_new T I2 ea hf r1 fun dx s' n ne J => ⟨_, _, J, q dx n ne⟩
  · exact xst_old T I2 ea ed hl hf r1 fun s' J => ⟨_, _, J, q⟩
/-- the promise of such an __init__: the parameters are stored, in order -/
def spX (K : PySem.W.Frag) (fl : List Str) : Sp := fun vs H Q _ => ∃ a C ys, vs = .ref a :: ys ∧ ys.length = fl.length ∧ XcC K C fl ∧ H a = some (exo a C none) ∧
  ∀ dx H', H dx = none → dx ≠ a → H' a = some (exo a C (some dx)) → H' dx = some (exd dx (fl.zip ys).reverse) → (∀ b, b ≠ a → b ≠ dx → H' b = H b) → Q .non H'
/-- the class x, its fields fl stored by its __init__ -/
def XMk (P : Program) (w : World) (K : PySem.W.Frag) (mg : Str → Option Value) (base : Heap) (k : Nat) (x : Str) (fl : List Str) : Prop :=
  ∃ C f fd ps, mg x = some (.ref C) ∧ XcC K C fl ∧ PySem.W.findIn K (.ref C) "__init__" = some (some (.ref f)) ∧ PySem.W.typeIn K (.ref f) = some (.type "function") ∧ Binds K fd ps [] ∧ FnG P w K mg base k f fd ps (spX K fl)
theorem XMk.mono {P : Program} {w : World} {K : PySem.W.Frag} {mg : Str → Option Value} {base : Heap} {j k : Nat} {x : Str} {fl : List Str} (h : XMk P w K mg base j x fl) (hk : j ≤ k) : XMk P w K mg base k x fl := by
  obtain ⟨C, f, fd, ps, h1, h2, h3, h4, h5, h6⟩ := h
  exact ⟨C, f, fd, ps, h1, h2, h3, h4, h5, h6.mono hk⟩
structure TopX (K : PySem.W.Frag) (mg : Str → Option Value) (x qual : Str) (st : Stmt) (ps fl : List Str) : Prop where
  ex : ∃ C f fd, mg x = some (.ref C) ∧ XcC K C fl ∧ PySem.W.findIn K (.ref C) "__init__" = some (some (.ref f)) ∧ PySem.W.typeIn K (.ref f) = some (.type "function") ∧ Fun K "__init__" qual st f fd ∧ Binds K fd ps []
section
variable {P : Program} {w : World} {K : PySem.W.Frag} {mg : Str → Option Value} {base : Heap}
theorem spX_len {fl : List Str} {vs : List V} {H : Hp} {Q : VK} {E : XK} (h : spX K fl vs H Q E) : vs.length = fl.length + 1 := by
  obtain ⟨a, C, ys, rfl, hl, _⟩ := h
  rw [List.length_cons, hl]
theorem xinit1 {x qual f1 s0 p1 : Str} {st : Stmt} {k : Nat} {q1 q2 q3 q4 : Pos} (T : TopX K mg x qual st [s0, p1] [f1]) (S : FnScope [s0, p1] [s0, p1] (defScope st)) (hb : defBody st = [.Assign [.Attribute (.Name s0 q1) f1 q2] (.Name p1 q3) q4])
    (d0 : (s0 == ("__debug__" : Str)) = false := by decide) (d1 : (p1 == ("__debug__" : Str)) = false := by decide) (c0 : (s0 == ("__classdict__" : Str)) = false := by decide) (c1 : (p1 == ("__classdict__" : Str)) = false := by decide)
    (v0 : Vis (defScope st) s0 := by exact .inl rfl) (v1 : Vis (defScope st) p1 := by exact .inl rfl) : XMk P w K mg base (k + 1) x [f1] := by
  obtain ⟨C, f, fd, hm, hc, hi, ht, F, b⟩ := T.ex
  refine ⟨C, f, fd, _, hm, hc, hi, ht, b, ?_⟩
  obtain ⟨oc, od, kV, doc, pm, an, cdv, ct, osl, rfl, lk, hcd⟩ := F.ex
  refine fnG_of lk hcd S (fun vs H Q E h => (spX_len h).trans rfl) fun A outer s H vs Q E hr hsp => ?_
  rw [hb]
  refine ⟨_, pss_one (ps_xst (pe_var (i := 0) rfl v0 d0 c0) (pe_var (i := 1) rfl v1 d1 c1) (by rfl)), ?_⟩
  obtain ⟨a, C', ys, rfl, hl, T', ea, q⟩ := hsp
  match ys, hl with
  | [y], _ =>
    refine ⟨y, rfl, .ref a, rfl, a, C', [f1], rfl, T', by simp, .inl ⟨ea, fun dx n ne => ?_⟩⟩
    refine q dx _ n ne upd_same ?_ fun b h1 h2 => ?_
    · rw [upd_ne ne, upd_same]
      rfl
    · rw [upd_ne h1, upd_ne h2]
theorem xinit2 {x qual f1 f2 s0 p1 p2 : Str} {st : Stmt} {k : Nat} {q1 q2 q3 q4 r1 r2 r3 r4 : Pos} (T : TopX K mg x qual st [s0, p1, p2] [f1, f2]) (S : FnScope [s0, p1, p2] [s0, p1, p2] (defScope st))
    (hb : defBody st = [.Assign [.Attribute (.Name s0 q1) f1 q2] (.Name p1 q3) q4, .Assign [.Attribute (.Name s0 r1) f2 r2] (.Name p2 r3) r4])
    (d0 : (s0 == ("__debug__" : Str)) = false := by decide) (d1 : (p1 == ("__debug__" : Str)) = false := by decide) (d2 : (p2 == ("__debug__" : Str)) = false := by decide) (c0 : (s0 == ("__classdict__" : Str)) = false := by decide) (c1 : (p1 == ("__classdict__" : Str)) = false := by decide) (c2 : (p2 == ("__classdict__" : Str)) = false := by decide)
    (v0 : Vis (defScope st) s0 := by exact .inl rfl) (v1 : Vis (defScope st) p1 := by exact .inl rfl) (v2 : Vis (defScope st) p2 := by exact .inl rfl) : XMk P w K mg base (k + 1) x [f1, f2] := by
  obtain ⟨C, f, fd, hm, hc, hi, ht, F, b⟩ := T.ex
  refine ⟨C, f, fd, _, hm, hc, hi, ht, b, ?_⟩
  obtain ⟨oc, od, kV, doc, pm, an, cdv, ct, osl, rfl, lk, hcd⟩ := F.ex
  refine fnG_of lk hcd S (fun vs H Q E h => (spX_len h).trans rfl) fun A outer s H vs Q E hr hsp => ?_
  rw [hb]
  refine ⟨_, pss_cons (ps_xst (pe_var (i := 0) rfl v0 d0 c0) (pe_var (i := 1) rfl v1 d1 c1) (by rfl)) (pss_one (ps_xst (pe_var (i := 0) rfl v0 d0 c0) (pe_var (i := 2) rfl v2 d2 c2) (by rfl))), ?_⟩
  obtain ⟨a, C', ys, rfl, hl, T', ea, q⟩ := hsp
  match ys, hl with
  | [y, z], _ =>
    refine ⟨y, rfl, .ref a, rfl, a, C', [f1, f2], rfl, T', by simp, .inl ⟨ea, fun dx n ne => ?_⟩⟩
    refine ⟨z, rfl, .ref a, rfl, a, C', [f1, f2], rfl, T', by simp, .inr ⟨dx, [(f1, y)], upd_same, by rw [upd_ne ne, upd_same], by simp, ?_⟩⟩
    refine q dx _ n ne ?_ upd_same fun b h1 h2 => ?_
    · rw [upd_ne (Ne.symm ne), upd_same]
    · rw [upd_ne h2, upd_ne h1, upd_ne h2]
end

/-! ### raise C(e, ..) -/
def tXmk (C : Addr) (fl : List Str) (ta : TA) : L2.St → Hp → XK → Prop := fun σ H Q => ta σ H fun vs H1 => vs.length = fl.length ∧ ∀ d, H1 d = none → Q (.ref C) (some d) (upd H1 d (.xd (fl.zip vs).reverse))
theorem pmk_xc {X : Cx} {k : Nat} {x : Str} {C : Addr} {fl : List Str} {e : Expr} {es : List Expr} {ta : TA} {p pos : Pos} (M : XMk X.prog X.w X.K X.mg X.base k x fl) (mc : X.mg x = some (.ref C)) (hr : Rm (k + 1) X.A) (hg : Gl X x) (ha : PA X (e :: es) ta) (hfl : fl.length ≤ 100)
    (hdb : (x == ("__debug__" : Str)) = false := by decide) (hst : starEach (e :: es) X.env = (false, eval e X.env) :: starEach es X.env := by rfl) (hpl : (backTo pos (starEach es X.env)).any (·.1) = false := by rfl) : PMk X (.Call (.Name x p) (e :: es) [] pos) (tXmk C fl ta) := by
  intro pins s σ H Q I h
  obtain ⟨C', f, fd, ps, mc', T, hi, ht, hb, FG⟩ := M
  rw [mc] at mc'
  cases mc'
  obtain ⟨newId, bm, ⟨B, initId, FB, SF⟩, hin, hov⟩ := T.bs
  refine wpAny_Call_Name_kw (ld_glob I hg mc ?_ hdb)
  refine PySem.W.callWith_K (h₀ := X.base) I.ok.mod.kin T.kp (thn (ha.run pos pins s σ H _ I h) fun us s1 ⟨vs, H1, I1, r1, hl, q1⟩ => ⟨I1.kIn, ?_⟩) hst hpl
  obtain ⟨hp, g, dr, tk, os⟩ := s1
  have big : hp.objs.size ≤ hp.objs.size + 1 := Nat.le_succ _
  have fr : H1 (hp.objs.size + 1) = none := I1.hok.fresh big
  have kk : ∀ b o, hp.get? b = some o → ((hp.push (PySem.W.kdv_tup us)).push (PySem.HandSPX.excO C hp.objs.size)).get? b = some o := fun b o e => Heap.get?_push_of_some _ (Heap.get?_push_of_some _ e)
  have hget : ((hp.push (PySem.W.kdv_tup us)).push (PySem.HandSPX.excO C hp.objs.size)).get? (hp.objs.size + 1) = some (PySem.HandSPX.excO C hp.objs.size) := by heap_get
  have I2 := I1.laid (t' := tk) (a := hp.objs.size + 1) (o := exo (hp.objs.size + 1) C none) kk big (exo_ok hget)
  have rr : Vals (V.ref (hp.objs.size + 1) :: vs) (Value.ref (hp.objs.size + 1) :: us) := .cons rfl r1
  have hus : us.length = fl.length := by rw [← hl]; exact (Paired.length r1).symm
  have huz : us.length ≤ sizeLine := by
    rw [hus, sizeLine_eq]
    omega
  obtain ⟨nm, N, qn, bs, bm', hD, sn, sub, ab, col, dd, k0, k1, k2, k3, k5, hC, hcon⟩ := PySem.W.excInit_of I1.kIn hin
  have hsp : spX X.K fl (V.ref (hp.objs.size + 1) :: vs) (upd H1 (hp.objs.size + 1) (exo (hp.objs.size + 1) C none)) (fun v H2 => v = .non ∧ ∃ (d : Addr) (fs : List (Str × V)), H2 (hp.objs.size + 1) = some (exo (hp.objs.size + 1) C (some d)) ∧ H2 d = some (exd d fs) ∧ H1 d = none ∧ Q (.ref C) (some d) (upd (del H2 (hp.objs.size + 1)) d (.xd fs))) (fun _ _ _ => False) := by
    refine ⟨_, C, vs, rfl, hl, T, upd_same, fun dx H' n ne ea ed hrest => ⟨rfl, dx, _, ea, ed, ?_, ?_⟩⟩
    · rw [upd_ne ne] at n
      exact n
    · rw [upd_ne ne] at n
      have eq : upd (del H' (hp.objs.size + 1)) dx (.xd (fl.zip vs).reverse) = upd H1 dx (.xd (fl.zip vs).reverse) := by
        funext b
        by_cases hb : b = dx
        · rw [hb, upd_same, upd_same]
        · rw [upd_ne hb, upd_ne hb]
          by_cases hb2 : b = hp.objs.size + 1
          · rw [hb2, del_same, fr]
          · rw [del_ne hb2, hrest b hb2 hb, upd_ne hb2]
      rw [eq]
      exact q1 dx n
  have hlen := FG.len _ _ _ _ hsp
  have hb' := hb { heap := (hp.push (PySem.W.kdv_tup us)).push (PySem.HandSPX.excO C hp.objs.size), gens := g, drawn := dr, toks := tk, os := os } (Value.ref (hp.objs.size + 1) :: us) I2.kIn (by rw [List.append_nil, ← rr.length]; exact hlen)
  rw [List.append_nil] at hb'
  refine wpAny_call (PySem.HandSPX.call_own FB hcon hC (PySem.W.looks_findIn I1.kIn hi) (fun self => PySem.W.bind_fn I1.kIn self ht) huz
    (codeAny_mono (FG.run _ X.stack _ _ ⟨Value.ref (hp.objs.size + 1) :: us, []⟩ (Value.ref (hp.objs.size + 1) :: us) _ _ _ (hr.make C us []) (I2.env0.make C us []) hb' rr hsp) fun r s' hq => ?_))
  cases r with
  | error er =>
    obtain ⟨_, _, _, _, _, _, _, _, _, _, _, _, z⟩ := hq
    exact z.elim
  | ok fw =>
    cases fw with
    | ret u =>
      obtain ⟨v, H2, os2, bare2, un2, hok2, rv, ev, d, fs, ea, ed, hd1, q2⟩ := hq
      subst ev
      obtain ⟨h2, g2, d2, t2, os'⟩ := s'
      exact ⟨rv, mk_end (raises_own T.rd.exC T.ty) I1 big kk un2 hok2 os2 bare2 ea ed hd1 q2⟩
    | next => exact False.elim hq
    | brk => exact False.elim hq
    | cont => exact False.elim hq
def sRaise (x : Str) (fl : List Str) (fa : En → Store → Res (List D)) : En → Store → ResS := fun env st => (fa env st).go env fun ds st => if ds.length = fl.length then .er ⟨x, (fl.zip ds).reverse⟩ env st else .stuck
section
variable {X : Cx} {W : Wi}
theorem RepF.ofZip {K : PySem.W.Frag} {mg : Str → Option Value} {g : G} : ∀ {fl : List Str} {ds : List D} {vs : List V}, RepL K mg g ds vs → RepF K mg g (fl.zip ds) (fl.zip vs)
  | [], _, _, _ => .nil
  | f :: fl, _, _, .nil => .nil
  | f :: fl, _, _, .cons r t => .cons r (RepF.ofZip t)
theorem RepF.app {K : PySem.W.Frag} {mg : Str → Option Value} {g : G} : ∀ {as bs : List (Str × D)} {vs ws : List (Str × V)}, RepF K mg g as vs → RepF K mg g bs ws → RepF K mg g (as ++ bs) (vs ++ ws)
  | _, _, _, _, .nil, s => s
  | _, _, _, _, .cons r t, s => .cons r (RepF.app t s)
theorem RepF.rev {K : PySem.W.Frag} {mg : Str → Option Value} {g : G} : ∀ {as : List (Str × D)} {vs : List (Str × V)}, RepF K mg g as vs → RepF K mg g as.reverse vs.reverse
  | _, _, .nil => .nil
  | _, _, .cons r t => by
    rw [List.reverse_cons, List.reverse_cons]
    exact (RepF.rev t).app (.cons r .nil)
theorem st_raise {k j : Nat} {x : Str} {fl : List Str} {e : Expr} {es : List Expr} {fa : En → Store → Res (List D)} {p pos pos2 : Pos} (M : XMk X.prog X.w X.K X.mg X.base j x fl) (hr : Rm k X.A) (hj : j + 1 ≤ k) (hc : X.calm = true) (tk : Takes X (wOf X.K X.mg W)) (hg : Gl X x) (ha : AE X W (e :: es) fa)
    (hfl : fl.length ≤ 100 := by decide) (hdb : (x == ("__debug__" : Str)) = false := by decide) (hst : starEach (e :: es) X.env = (false, eval e X.env) :: starEach es X.env := by rfl) (hpl : (backTo pos (starEach es X.env)).any (·.1) = false := by rfl) :
    ST X W (.Raise (some (.Call (.Name x p) (e :: es) [] pos)) none pos2) (sRaise x fl fa) := by
  obtain ⟨C, f, fd, ps, mc, T, rest⟩ := id M
  refine ⟨fun pins s σ H D I h => ?_⟩
  refine (ps_raise hc tk (pmk_xc M mc (hr.mono hj) hg ha hfl hdb hst hpl)).run pins s σ H D I ?_
  obtain ⟨g, env, st, os, hv, ho, hS, h⟩ := h
  refine ⟨g, env, st, os, hv, ho, hS, (PostSt.go hv ho h).imp fun vs H1 q => ?_⟩
  obtain ⟨g1, ds, st1, s1, r, S1, e1, o1, h1⟩ := q
  split at h1
  · next hl =>
    refine ⟨by rw [← r.length, hl], fun d n => ?_⟩
    obtain ⟨S2, s2⟩ := S1.newF (o := .xd (fl.zip vs).reverse) n
    refine ⟨⟨x, (fl.zip ds).reverse⟩, st1, _, S2, ⟨mc, C, d, _, rfl, rfl, upd_same, ((RepF.ofZip r).rev).ext s2.ext⟩, ?_⟩
    exact h1 σ _ _ os (s2.frame os) (e1.step' o1 s2) (o1.step s2) S2
  · exact (h1 : False).elim
end
end EV

set_option Elab.async false
set_option linter.all false
set_option autoImplicit false
set_option maxRecDepth 100000
set_option maxHeartbeats 1000000
/-! try: .. except C as e: .. -/
namespace EV
open PySem PySem.Spec PyProof.Rows L2
/-- the suite's end; an error of it is not told -/
def noEr : ResS → ResS
  | .er _ _ _ => .stuck
  | r => r
def unE (i : Nat) : ResS → ResS
  | .nx env st => .nx (env.set i .un) st
  | .br env st => .br (env.set i .un) st
  | .ct env st => .ct (env.set i .un) st
  | .rt d st => .rt d st
  | _ => .stuck
structure Cl where
  cs : List Str
  nm : Option Nat
  bd : En → Store → ResS
def handle : List Cl → Er → En → Store → ResS
  | [], e, env, st => .er e env st
  | c :: r, e, env, st => if e.cls ∈ c.cs then (match c.nm with
    | none => noEr (c.bd env st)
    | some i => unE i (c.bd (env.set i (.vl (.exc e.cls e.fs))) st)) else handle r e env st
def sTry (tb : List Str) (fb : En → Store → ResS) (hs : List Cl) : En → Store → ResS := fun env st => match fb env st with
  | .er e env' st' => if e.cls ∈ tb then handle hs e env' st' else .stuck
  | r => r
/-- which of the classes tb is one of cs -/
def ExTab (K : PySem.W.Frag) (mg : Str → Option Value) (tb : List Str) (C' : Str) : Prop := ∃ c', mg C' = some (.ref c') ∧ ∀ C ∈ tb, ∃ c, mg C = some (.ref c) ∧ PySem.W.exmOne K (.ref c) (.ref c') = some (decide (C = C'))
section
variable {X : Cx} {pins : List (Addr × Obj)} {σ : L2.St} {H : Hp} {s : Shared} {a c dd : Addr} {oe : Obj} {vs : Array Value}
theorem xcO_ok {P : Program} {w : World} {H : Hp} {h : Heap} (he : h.get? a = some oe) (hc : oe.cls = .ref c) (hd : oe.dict = some dd) (hf : oe.data = .fields vs) : ObjOk P w H h a (xcO a c dd) :=
  ⟨⟨oe, vs, he, hc, hd, hf⟩, ⟨_, he⟩, fun h1 h2 z k => by
    obtain ⟨o, v, e, q⟩ := z
    exact ⟨o, v, k _ e, q⟩⟩
/-- the caught exception is tracked -/
theorem Inv.caught (J : L2.Inv X pins σ H s) (hex : X.ex = []) (he : s.heap.get? a = some oe) (hc : oe.cls = .ref c) (hd : oe.dict = some dd) (hf : oe.data = .fields vs) (na : H a = none) (nL : a ≠ X.env.locals) (n0 : X.s_0.heap.get? a = none) (np : ∀ p ∈ X.pn ++ pins, p.1 ≠ a) :
    L2.Inv (X.suite a (X.pn ++ pins)) [] σ (upd H a (xcO a c dd)) s := by
  have ne : ∀ {b : Addr} {o : HO}, H b = some o → b ≠ a := fun {b o} q z => by
    rw [z, na] at q
    exact nomatch q
  refine ⟨J.ok.suite _ _, J.os, J.bare, ⟨J.base.keep, J.base.slot, fun b o q n hx => ?_, J.base.there, fun b xs q => ?_, fun b o u q => ?_, fun b ps q => ?_⟩, J.loc, J.cell, ?_, fun y c' e => ?_, fun p hp => ?_, fun b o q => ?_, J.len⟩
  · rw [upd_ne (fun z => by rw [z, n0] at q; cases q)]
    exact J.base.free b o q n hx
  · have z := J.base.tups b xs q
    rw [upd_ne (ne z)]
    exact z
  · have z := J.base.frzs b o u q
    rw [upd_ne (ne z)]
    exact z
  · obtain ⟨m, z⟩ := J.base.tbls b ps q
    exact ⟨m, by rw [upd_ne (ne z)]; exact z⟩
  · rw [upd_ne (Ne.symm nL)]
    exact J.free
  · rw [upd_ne]
    · exact J.freeC y c' e
    · intro z
      obtain ⟨v, hv⟩ := J.cell y c' e
      rw [z] at hv
      obtain ⟨o, ho, hdat⟩ := hv
      rw [he] at ho
      cases ho
      rw [hf] at hdat
      first | exact nomatch hdat | (cases hdat) | (simp at hdat)
  · have hp' : p ∈ X.pn ++ pins := by rw [List.append_nil] at hp; exact hp
    obtain ⟨h1, h2, h3⟩ := J.pin p hp'
    refine ⟨h1, ?_, h3⟩
    rw [upd_ne (np p hp')]
    exact h2
  · by_cases hb : b = a
    · rw [hb, upd_same] at q
      rw [hb]
      cases q
      exact xcO_ok he hc hd hf
    · rw [upd_ne hb] at q
      refine (J.hok b o q).stay (fun c v _ z => z) (fun c hc => ?_) (fun c xs hc => ?_)
      · rw [upd_ne (ne hc)]
        exact hc
      · rw [upd_ne (ne hc)]
        exact hc
theorem Inv.uncaught {pn' : List (Addr × Obj)} (I : L2.Inv (X.suite a (X.pn ++ pins)) pn' σ H s) (ok : X.Ok) : L2.Inv X pins σ H s :=
  ⟨ok, I.os, I.bare, I.base, I.loc, I.cell, I.free, I.freeC, fun p hp => I.pin p (List.mem_append_left _ hp), I.hok, I.len⟩
end
/-- one clause -/
inductive ClsOk (X : Cx) : List ExceptHandler → List Cl → Prop
  | nil : ClsOk X [] []
  | one {x : Str} {b₀ : Stmt} {suite : List Stmt} {np pos' : Pos} {hds : List ExceptHandler} {l : List Cl} {f : En → Store → ResS} (hg : Gl X x) (hdb : (x == ("__debug__" : Str)) = false)
      (hsu : ∀ (a : Addr) (pn : List (Addr × Obj)), STs (X.suite a pn) W0 (b₀ :: suite) f) (r : ClsOk X hds l) : ClsOk X (.ExceptHandler (some (.Name x np)) none (b₀ :: suite) pos' :: hds) (⟨[x], none, f⟩ :: l)
  | oneAs {x n : Str} {i : Nat} {b₀ : Stmt} {suite : List Stmt} {np pos' : Pos} {hds : List ExceptHandler} {l : List Cl} {f : En → Store → ResS} (hg : Gl X x) (hdb : (x == ("__debug__" : Str)) = false) (hi : X.N[i]? = some n) (hln : X.env.kindOf n = some .local)
      (hsu : ∀ (a : Addr) (pn : List (Addr × Obj)), STs (X.suite a pn) W0 (b₀ :: suite) f) (r : ClsOk X hds l) : ClsOk X (.ExceptHandler (some (.Name x np)) (some n) (b₀ :: suite) pos' :: hds) (⟨[x], some i, f⟩ :: l)
section
variable {X : Cx} {W : Wi} {body : List Stmt} {h₀ : ExceptHandler} {hds : List ExceptHandler} {l : List Cl} {pos : Pos} {fb : En → Store → ResS} {tb : List Str}
theorem PostSt.noEr {K : PySem.W.Frag} {mg : Str → Option Value} {g : G} {H : Hp} {os : List Addr} {D : Ends} {r : ResS} (h : PostSt K mg W g H os D (EV.noEr r)) : PostSt K mg W0 g H os D r := by
  cases r with
  | er e env st => exact h.elim
  | _ => exact h
theorem PostSt.unE {K : PySem.W.Frag} {mg : Str → Option Value} {g : G} {H : Hp} {os : List Addr} {D : Ends} {i : Nat} {r : ResS} (h : PostSt K mg W g H os D (EV.unE i r)) :
    PostSt K mg W0 g H os { nx := fun σ' H' => D.nx (σ'.set i none) H', rt := D.rt, bk := fun σ' H' => D.bk (σ'.set i none) H', ct := fun σ' H' => D.ct (σ'.set i none) H' } r := by
  have key : ∀ {env : En} {σ' : L2.St} {g' : G} {H' : Hp} {os' : List Addr}, EnvOk K mg g' H' env σ' os' → OsOk g' H' os' → ∃ os2, EnvOk K mg g' H' (env.set i .un) (σ'.set i none) os2 ∧ OsOk g' H' os2 ∧ ∀ a ∈ os2, a ∈ os' := fun {env σ' g' H' os'} e1 o1 => by
    obtain ⟨os2, q1, q2, q3⟩ := EnvOk.set (SlotOk.un (K := K) (mg := mg) (g := g') (H := H') none) i e1
    exact ⟨os2, q1, o1.sub (fun a ha => by simpa using q2 a ha) (q3 (by simpa using o1.nd)), fun a ha => by simpa using q2 a ha⟩
  cases r with
  | nx env st =>
    intro σ' g' H' os' s1 e1 o1 S1
    obtain ⟨os2, q1, q2, q3⟩ := key e1 o1
    exact h _ g' H' os2 (s1.sub q3) q1 q2 S1
  | br env st =>
    intro σ' g' H' os' s1 e1 o1 S1
    obtain ⟨os2, q1, q2, q3⟩ := key e1 o1
    exact h _ g' H' os2 (s1.sub q3) q1 q2 S1
  | ct env st =>
    intro σ' g' H' os' s1 e1 o1 S1
    obtain ⟨os2, q1, q2, q3⟩ := key e1 o1
    exact h _ g' H' os2 (s1.sub q3) q1 q2 S1
  | rt d st => exact h
  | er e env st => exact h.elim
  | stuck => exact h.elim
theorem st_try (hs : X.stack = X.env :: X.outer) (hf : X.env.frame = some X.env.locals) (hex : X.ex = []) (hN : X.N.Nodup) (tk : Takes X (wOf X.K X.mg W))
    (hb : ∀ (W' : Wi) (pn : List (Addr × Obj)) (xe : Value → Shared → Prop), Takes (X.tr pn xe) (wOf X.K X.mg W') → PassesOwn (model X.prog X.w) X.A X.env xe → STs (X.tr pn xe) W' body fb)
    (hh : ClsOk X (h₀ :: hds) l) (ht : ∀ c ∈ l, ∀ x ∈ c.cs, ExTab X.K X.mg tb x) : ST X W (.Try body (h₀ :: hds) [] [] pos) (sTry tb fb l) := by
  refine ⟨fun pins s σ H D I h => ?_⟩
  have ok := I.ok
  have hfr : X.A.frames = some (X.env :: X.outer) := by rw [ok.frames, hs]
  refine wpAny_Try_except ?_
  have hbody := hb (fun e st' g' H' σ' => ∃ env' os', EnvOk X.K X.mg g' H' env' σ' os' ∧ OsOk g' H' os' ∧ e.cls ∈ tb ∧ PostSt X.K X.mg W g' H' os' D (handle l e env' st')) (X.pn ++ pins)
    (fun e s₁ => wpAny (model X.prog X.w) X.A (noteFrame e X.env) (fun _ s₂ => wpAny (model X.prog X.w) X.A (setFlight e none) (fun _ s₃ => wpAny (model X.prog X.w) X.A (handleBy e X.env (h₀ :: hds)) (SP X pins D) X.xe s₃) X.xe s₂) X.xe s₁)
  refine wpAny_mono ((hbody (fun u s' xx => ?_) PassesOwn.looking).run [] s σ H D (I.toTry _) ?_) (fun f s1 hsp => ?_) (fun e s1 he => he)
  · -- an error of the body
    obtain ⟨a, B, sI, pins', σ', H', cls, d, rfl, J', nb, up, sky, na, os, ag, e, st', g', S', eo, env', os', e1, o1, hm, hp⟩ := xx
    have J : L2.Inv X pins σ' H' sI := J'.ofTry ok
    have sky' : Sky B (X.env :: X.outer) a (Zc cls d) X.env.locals s'.heap := by rw [← hs]; exact sky
    obtain ⟨mc, c, dd, zs, rfl, rfl, kd, rf⟩ := eo
    refine Sky.land Zc.steady hfr hf sky' fun h3 fl3 up3 => ?_
    have J3 : L2.Inv X pins σ' H' { s' with heap := h3 } := J.landed nb fl3.1 (up.trans up3) os ag
    obtain ⟨oe3, vs3, he3, hz3, hd3⟩ := fl3.there
    have notFr : a ∉ frs (X.env :: X.outer) := fun hm => by
      obtain ⟨_, o', e', hnf⟩ := fl3.2.2.1.mem hm
      rw [he3] at e'
      cases e'
      exact hnf _ hd3
    have nL : a ≠ X.env.locals := fun z => notFr (List.mem_filterMap.mpr ⟨X.env, List.mem_cons_self, by rw [hf, z]⟩)
    have nI : sI.heap.get? a = none := by
      cases q : sI.heap.get? a with
      | none => rfl
      | some o =>
        have z := nb a o q (by rw [show (X.tr (X.pn ++ pins) _).stack = X.env :: X.outer from hs]; exact notFr)
        rw [fl3.2.1] at z
        exact nomatch z
    have n0 : X.s_0.heap.get? a = none := by
      cases q : X.s_0.heap.get? a with
      | none => rfl
      | some o =>
        obtain ⟨o', z⟩ := J.base.there a o q (by rw [hex]; simp)
        rw [nI] at z
        exact nomatch z
    have np : ∀ p ∈ X.pn ++ pins, p.1 ≠ a := fun p hp z => by
      have q := (J.pin p hp).1
      rw [z, nI] at q
      exact nomatch q
    have S3 := Inv.caught J3 hex he3 hz3.1 hz3.2 hd3 na nL n0 np
    have go : ∀ {hds' : List ExceptHandler} {l' : List Cl}, ClsOk X hds' l' → (∀ c ∈ l', ∀ x ∈ c.cs, ExTab X.K X.mg tb x) → PostSt X.K X.mg W g' H' os' D (handle l' e env' st') →
        wpAny (model X.prog X.w) X.A (handleBy (.ref a) X.env hds') (SP X pins D) X.xe { s' with heap := h3 } := by
      intro hds' l' hk
      -- the test of a clause with one name
      have test : ∀ {x : Str} {np : Pos} {Q : Bool → Shared → Prop} {E : Value → Shared → Prop}, Gl X x → (x == ("__debug__" : Str)) = false → ExTab X.K X.mg tb x → Q (decide (e.cls = x)) { s' with heap := h3 } →
          wpAny (model X.prog X.w) (X.A.mark (some (.ref a))) (eval (.Name x np) X.env) (fun v s4 => wpAny (model X.prog X.w) (X.A.mark (some (.ref a))) (excMatches (.ref a) v) Q E s4) E { s' with heap := h3 } := fun {x np Q E} hg hdb hx q => by
        obtain ⟨c', mc', hx'⟩ := hx
        obtain ⟨c2, mc2, hex2⟩ := hx' e.cls hm
        rw [mc] at mc2
        cases mc2
        have LT : PySem.W.Looks (model X.prog X.w) h3 (typeOf (.ref a)) (.ref c) := fun A Q E s k q => wpAny_typeOf_ref (k _ _ he3) (by rw [hz3.1]; exact q)
        have LM := PySem.W.exm_one (M := model X.prog X.w) (J3.kIn) LT hex2
        exact ld_glob (X := X.suite a (X.pn ++ pins)) S3 hg mc' (LM.here q) hdb
      induction hk with
      | nil =>
        intro _ w
        refine wpAny_handleBy_nil ?_
        obtain ⟨k1, k2, k3, oe, vs, T, oT, ts', he, hz, hd, h1, hr⟩ := id fl3
        unfold PySem.passOn
        refine wpAny_bind (wpAny_field he hd h1 ?_)
        rw [if_neg (show ¬ ((Value.ref T == Value.none) = true) from by simp)]
        have fin : wpAny (model X.prog X.w) X.A (setFlight (.ref a) X.env.frame) (fun _ s4 => wpAny (model X.prog X.w) X.A (throw (.ref a) : Sem Flow) (SP X pins D) X.xe s4) X.xe { s' with heap := h3 } := by
          rw [hf]
          refine HandSPX.setFlight_upZ fl3 fun h4 hh4 up4 => wpAny_throw (tk _ _ ?_)
          refine ⟨a, B, sI, pins, σ', H', _, _, rfl, J, nb, (up.trans up3).trans up4, .inr (.inr (by rw [hs]; exact hh4)), na, os, ag, e, st', g', S', ⟨mc, c, dd, zs, rfl, rfl, kd, rf⟩, ?_⟩
          exact w σ' g' H' os' Step.refl e1 o1 S'
        first
          | exact wpAny_bind (wpAny_pure (wpAny_bind fin))
          | exact wpAny_bind fin
      | @one x b₀ suite np2 pos' hds2 l2 f hg hdb hsu r ih =>
        intro ht w
        refine wpAny_handleBy_cons (codeAny_handlers_test ?_) (by intro q; cases q)
        refine test hg hdb (ht _ List.mem_cons_self x List.mem_cons_self) ?_
        by_cases hcl : e.cls = x
        · rw [decide_eq_true hcl]
          refine codeAny_handlers_suite ?_
          refine HandSPX.lands_againZ fl3 fun h4 fl4 up4 => ?_
          have J4 : L2.Inv X pins σ' H' { s' with heap := h4 } := J.landed nb fl4.1 ((up.trans up3).trans up4) os ag
          obtain ⟨oe4, vs4, he4, hz4, hd4⟩ := fl4.there
          have S4 := Inv.caught J4 hex he4 hz4.1 hz4.2 hd4 na nL n0 np
          obtain ⟨SS, s2⟩ := S'.newF (o := xcO a c dd) na
          have w' : PostSt X.K X.mg W g' H' os' D (EV.noEr (f env' st')) := by
            unfold handle at w
            rw [if_pos (by rw [hcl]; exact List.mem_cons_self)] at w
            exact w
          refine wpAny_mono ((hsu a (X.pn ++ pins)).run [] _ _ _ _ S4 ⟨_, env', st', os', e1.step' o1 s2, o1.step s2, SS, (PostSt.noEr w').step (s2.frame os')⟩) (fun fw s6 hsp => ?_) (fun _ _ z => False.elim z)
          cases fw with
          | next =>
            obtain ⟨σ6, H6, S6, q6⟩ := hsp
            exact ⟨_, _, Inv.uncaught S6 ok, q6⟩
          | brk =>
            obtain ⟨σ6, H6, S6, q6⟩ := hsp
            exact ⟨_, _, Inv.uncaught S6 ok, q6⟩
          | cont =>
            obtain ⟨σ6, H6, S6, q6⟩ := hsp
            exact ⟨_, _, Inv.uncaught S6 ok, q6⟩
          | ret u =>
            obtain ⟨v6, σ6, H6, S6, r6, q6⟩ := hsp
            exact ⟨_, _, _, Inv.uncaught S6 ok, r6, q6⟩
        · rw [decide_eq_false hcl]
          refine ih (fun c hc => ht c (List.mem_cons_of_mem _ hc)) ?_
          unfold handle at w
          rw [if_neg (by simpa using hcl)] at w
          exact w
      | @oneAs x n i b₀ suite np2 pos' hds2 l2 f hg hdb hi hln hsu r ih =>
        intro ht w
        refine wpAny_handleBy_cons (codeAny_handlers_test ?_) (by intro q; cases q)
        refine test hg hdb (ht _ List.mem_cons_self x List.mem_cons_self) ?_
        by_cases hcl : e.cls = x
        · rw [decide_eq_true hcl]
          refine codeAny_handlers_suite_as ?_
          refine HandSPX.lands_againZ fl3 fun h4 fl4 up4 => ?_
          have J4 : L2.Inv X pins σ' H' { s' with heap := h4 } := J.landed nb fl4.1 ((up.trans up3).trans up4) os ag
          obtain ⟨oe4, vs4, he4, hz4, hd4⟩ := fl4.there
          have S4 := Inv.caught J4 hex he4 hz4.1 hz4.2 hd4 na nL n0 np
          obtain ⟨SS, s2⟩ := S'.newF (o := xcO a c dd) na
          have w' : PostSt X.K X.mg W g' H' os' D (EV.unE i (f (env'.set i (.vl (.exc e.cls e.fs))) st')) := by
            unfold handle at w
            rw [if_pos (by rw [hcl]; exact List.mem_cons_self)] at w
            exact w
          have rx : Rep X.K X.mg (g'.freeze a (xcO a c dd)) (.exc e.cls e.fs) (.ref a) := .exc mc upd_same (s2.ext.kp _ _ kd) (rf.ext s2.ext)
          obtain ⟨os2, q1, q2, q3⟩ := EnvOk.set (SlotOk.vl (H := upd H' a (xcO a c dd)) rx) i (e1.step' o1 s2)
          have o2 := o1.step s2
          have hsub : ∀ b ∈ os2, b ∈ os' := fun b hb => by simpa using q2 b hb
          have o3 := o2.sub hsub (q3 (by simpa using o2.nd))
          refine store_ok (X := X.suite a (X.pn ++ pins)) (v := .ref a) S4 hN hi (.inl hln) rfl (fun s5 S5 => ?_) (.inr hln)
          refine wpAny_mono ((hsu a (X.pn ++ pins)).run [] s5 _ _ _ S5 ⟨_, _, st', os2, q1, o3, SS, (PostSt.unE w').step ((s2.frame os').sub hsub)⟩) (fun fw s6 hsp => ?_) (fun _ _ z => False.elim z)
          have end_ : ∀ {σ6 : L2.St} {H6 : Hp} {Q : Shared → Prop}, L2.Inv (X.suite a (X.pn ++ pins)) [] σ6 H6 s6 → (∀ s7, L2.Inv X pins (σ6.set i none) H6 s7 → Q s7) →
              wpAny (model X.prog X.w) X.A (do bindName X.env n .none; unbindBehindTheSuite X.env n pos') (fun _ s7 => Q s7) X.xe s6 := fun {σ6 H6 Q} S6 hq => gone_ok (Inv.uncaught S6 ok) hN hi hln hq
          cases fw with
          | next =>
            obtain ⟨σ6, H6, S6, q6⟩ := hsp
            exact end_ S6 fun s7 J7 => ⟨_, _, J7, q6⟩
          | brk =>
            obtain ⟨σ6, H6, S6, q6⟩ := hsp
            exact end_ S6 fun s7 J7 => ⟨_, _, J7, q6⟩
          | cont =>
            obtain ⟨σ6, H6, S6, q6⟩ := hsp
            exact end_ S6 fun s7 J7 => ⟨_, _, J7, q6⟩
          | ret u =>
            obtain ⟨v6, σ6, H6, S6, r6, q6⟩ := hsp
            exact end_ S6 fun s7 J7 => ⟨_, _, _, J7, r6, q6⟩
        · rw [decide_eq_false hcl]
          refine ih (fun c hc => ht c (List.mem_cons_of_mem _ hc)) ?_
          unfold handle at w
          rw [if_neg (by simpa using hcl)] at w
          exact w
    exact go hh ht hp
  · obtain ⟨g, env, st, os, hv, ho, hS, h⟩ := h
    refine ⟨g, env, st, os, hv, ho, hS, ?_⟩
    unfold sTry at h
    show PostSt _ _ _ _ _ _ _ (fb env st)
    generalize fb env st = r at h ⊢
    cases r with
    | er e env1 st1 =>
      intro σ' g' H' os' s1 e1 o1 S1
      dsimp only at h
      split at h
      · next hm => exact ⟨env1, os', e1, o1, hm, PostSt.step h s1⟩
      · exact h.elim
    | nx _ _ => exact h
    | rt _ _ => exact h
    | br _ _ => exact h
    | ct _ _ => exact h
    | stuck => exact h
  · cases f with
    | next =>
      obtain ⟨σ', H', J', q⟩ := hsp
      exact wpAny_execs_nil ⟨σ', H', J'.ofTry ok, q⟩
    | brk =>
      obtain ⟨σ', H', J', q⟩ := hsp
      exact ⟨σ', H', J'.ofTry ok, q⟩
    | cont =>
      obtain ⟨σ', H', J', q⟩ := hsp
      exact ⟨σ', H', J'.ofTry ok, q⟩
    | ret u =>
      obtain ⟨v, σ', H', J', r, q⟩ := hsp
      exact ⟨v, σ', H', J'.ofTry ok, r, q⟩
end
end EV
namespace EV
open PySem PySem.Spec PyProof.Rows L2
/-! ### e.f of a caught exception -/
def XfAt (K : PySem.W.Frag) (mg : Str → Option Value) (C f : Str) : Prop := ∃ c, mg C = some (.ref c) ∧ XfC K c ∧ PySem.W.findIn K (.ref c) f = some none
def xfF (C f : Str) : D → Store → Res D := fun d st => match d with
  | .exc C' fs => if C' = C then (match lkF fs f with
    | some x => .ok x st
    | none => .stuck) else .stuck
  | _ => .stuck
theorem e_xf {X : Cx} {W : Wi} {o : Expr} {fo : En → Store → Res D} {C f : Str} {pos : Pos} (ho : EE X W o fo) (hT : XfAt X.K X.mg C f) (hb : attributeBase o f X.env (eval o X.env) = eval o X.env := by rfl) : EE X W (.Attribute o f pos) (v1 (xfF C f) fo) := by
  refine ⟨fun pins s σ H Q I h => ?_⟩
  obtain ⟨g, env, st, os, hv, hos, hS, h⟩ := h
  refine attr_of hb (thn (ho.run pins s σ H _ I ⟨g, env, st, os, hv, hos, hS, Post.bind h⟩) fun u s1 ⟨x, H1, I1, rx, q⟩ => ?_)
  obtain ⟨g1, d, st1, s1', rd, S1, h1⟩ := q
  unfold xfF at h1
  split at h1
  · next C' fs =>
    split at h1
    · next hC =>
      subst hC
      split at h1
      · next y hy =>
        cases rd with
        | @exc _ c a dd _ zs m ka kd rf =>
          obtain rfl : u = Value.ref a := rx
          obtain ⟨c', mc, T, hno⟩ := hT
          rw [m] at mc
          cases mc
          have h2 : ObjOk X.prog X.w H1 s1.heap a (xcO a c dd) := I1.hok a _ (S1.kp _ _ ka)
          obtain ⟨⟨oe, vs, he, hc, hd, hf⟩, _⟩ := h2
          have hx : ObjOk X.prog X.w H1 s1.heap dd (.xd zs) := I1.hok dd _ (S1.kp _ _ kd)
          obtain ⟨mA, hns, hr⟩ := hx
          obtain ⟨od, hod, hl⟩ := lookIn_ns hns
          obtain ⟨v, hz, rv⟩ := (RepF.get (f := f) rf).1 y hy
          obtain ⟨u, hu, ru⟩ := RelO.some_of (v := v) (o := mA f) (by rw [← hz]; exact hr f)
          have J : PySem.W.InstAt s1.heap a oe c (some od) := ⟨he, hc, by unfold PySem.W.notCls; rw [hf] <;> rfl, by rw [hd]; exact hod⟩
          exact HandSPX.exc_get I1.kIn J T.ga T.gg T.exC (PySem.W.findObj_own T.hdC hno rfl (by rw [hl, hu])) (handed_of ru) ⟨v, H1, I1.tok _, ru, h1.here rv S1⟩
      · exact h1.elim
    · exact h1.elim
  · exact h1.elim
section
variable {K : PySem.W.Frag} {mg : Str → Option Value} {tb : List Str}
theorem ct_nil : ∀ c ∈ ([] : List Cl), ∀ x ∈ c.cs, ExTab K mg tb x := fun _ h => nomatch h
theorem ct_one {x : Str} {nm : Option Nat} {f : En → Store → ResS} {l : List Cl} (h : ExTab K mg tb x) (r : ∀ c ∈ l, ∀ x ∈ c.cs, ExTab K mg tb x) : ∀ c ∈ ((⟨[x], nm, f⟩ : Cl) :: l), ∀ x ∈ c.cs, ExTab K mg tb x := fun c hc y hy => by
  rcases List.mem_cons.mp hc with rfl | hc
  · have e : y = x := by simpa using hy
    rw [e]
    exact h
  · exact r c hc y hy
theorem exTab_mk {C' : Str} {c' : Addr} (m : mg C' = some (.ref c')) (h : ∀ C ∈ tb, ∃ c, mg C = some (.ref c) ∧ PySem.W.exmOne K (.ref c) (.ref c') = some (decide (C = C'))) : ExTab K mg tb C' := ⟨c', m, h⟩
theorem ext_nil {c' : Addr} {C' : Str} : ∀ C ∈ ([] : List Str), ∃ c, mg C = some (.ref c) ∧ PySem.W.exmOne K (.ref c) (.ref c') = some (decide (C = C')) := fun _ h => nomatch h
theorem ext_cons {c' c : Addr} {C' C : Str} (m : mg C = some (.ref c)) (h : PySem.W.exmOne K (.ref c) (.ref c') = some (decide (C = C'))) (r : ∀ C ∈ tb, ∃ c, mg C = some (.ref c) ∧ PySem.W.exmOne K (.ref c) (.ref c') = some (decide (C = C'))) :
    ∀ D ∈ C :: tb, ∃ c, mg D = some (.ref c) ∧ PySem.W.exmOne K (.ref c) (.ref c') = some (decide (D = C')) := fun D hD => by
  rcases List.mem_cons.mp hD with rfl | hD
  · exact ⟨c, m, h⟩
  · exact r D hD
end
end EV
namespace EV
open PySem PySem.Spec PyProof.Rows L2
variable {E : ErP} {Ee : ErS}
abbrev noEs : ErS := fun _ _ _ => False
section
variable {nx br ct : NX} {rt : RT} {env : En} {st : Store} {fb : En → Store → ResS} {fa : En → Store → Res (List D)} {x : Str} {fl cs tb : List Str} {hs r : List Cl} {e : Er} {bd : En → Store → ResS} {i : Nat}
theorem go_raise (q : (fa env st).holds (atE Ee env) fun ds st => ds.length = fl.length ∧ Ee ⟨x, (fl.zip ds).reverse⟩ env st) : (sRaise x fl fa env st).runs Ee nx rt br ct := by
  refine go_go (q.imp fun ds st h => ?_)
  rw [if_pos h.1]
  exact h.2
theorem go_try (q : (fb env st).runs (fun e env st => e.cls ∈ tb ∧ (handle hs e env st).runs Ee nx rt br ct) nx rt br ct) : (sTry tb fb hs env st).runs Ee nx rt br ct := by
  unfold sTry
  revert q
  generalize fb env st = r
  intro q
  cases r with
  | er e env1 st1 =>
    show ResS.runs (if e.cls ∈ tb then handle hs e env1 st1 else .stuck) _ _ _ _ _
    rw [if_pos q.1]
    exact q.2
  | _ => exact q
theorem go_hdNil (q : Ee e env st) : (handle [] e env st).runs Ee nx rt br ct := q
theorem go_hdNo {c : Cl} (h : e.cls ∉ c.cs) (q : (handle r e env st).runs Ee nx rt br ct) : (handle (c :: r) e env st).runs Ee nx rt br ct := by
  unfold handle
  rw [if_neg h]
  exact q
theorem go_hdAs (h : e.cls ∈ cs) (q : Nm (env.set i (.vl (.exc e.cls e.fs))) fun env => (bd env st).runs noEs (fun env st => nx (env.set i .un) st) rt (fun env st => br (env.set i .un) st) (fun env st => ct (env.set i .un) st)) : (handle (⟨cs, some i, bd⟩ :: r) e env st).runs Ee nx rt br ct := by
  unfold Nm at q
  unfold handle
  rw [if_pos h]
  show (unE i (bd (env.set i (.vl (.exc e.cls e.fs))) st)).runs _ _ _ _ _
  revert q
  generalize bd (env.set i (.vl (.exc e.cls e.fs))) st = r2
  intro q
  cases r2 with
  | er _ _ _ => exact (q : False).elim
  | _ => exact q
theorem go_hd (h : e.cls ∈ cs) (q : (bd env st).runs noEs nx rt br ct) : (handle (⟨cs, none, bd⟩ :: r) e env st).runs Ee nx rt br ct := by
  unfold handle
  rw [if_pos h]
  show (noEr (bd env st)).runs _ _ _ _ _
  revert q
  generalize bd env st = r2
  intro q
  cases r2 with
  | er _ _ _ => exact (q : False).elim
  | _ => exact q
theorem go_xf {C f : Str} {fs : List (Str × D)} {d : D} {P : D → Store → Prop} (h : lkF fs f = some d) (q : P d st) : (xfF C f (.exc C fs) st).holds E P := by
  unfold xfF
  simp only [if_pos, h]
  exact q
end
end EV
namespace EV
open PySem PySem.Spec PyProof.Rows L2
variable {E : ErP} {Ee : ErS}
section
variable {nx br ct : NX} {rt : RT} {env : En} {st : Store} {f : En → Store → ResS} {tg : D → En → Store → ResS} {d x y : D} {ds : List D} {P : D → Store → Prop} {n1 n2 w1 w2 : Nat}
theorem go_forN (q : nx env st) : (forL tg f [] env st).runs Ee nx rt br ct := q
theorem go_forC (q : (tg d env st).runs Ee (fun env st => Nm env fun env => (f env st).runs Ee (fun env st => (forL tg f ds env st).runs Ee nx rt br ct) rt nx (fun env st => (forL tg f ds env st).runs Ee nx rt br ct)) noR no no) : (forL tg f (d :: ds) env st).runs Ee nx rt br ct := by
  unfold forL
  revert q
  generalize tg d env st = r
  intro q
  cases r with
  | nx env1 st1 =>
    have q' : (f env1 st1).runs Ee (fun env st => (forL tg f ds env st).runs Ee nx rt br ct) rt nx (fun env st => (forL tg f ds env st).runs Ee nx rt br ct) := q
    show (match f env1 st1 with
      | .nx env st => forL tg f ds env st
      | .ct env st => forL tg f ds env st
      | .br env st => .nx env st
      | r => r).runs Ee nx rt br ct
    revert q'
    generalize f env1 st1 = r2
    intro q'
    cases r2 <;> exact q'
  | er e env1 st1 => exact q
  | _ => exact (q : False).elim
theorem eqB_any (gx : Gd (10 ^ 12) n1 w1 x) (gy : Gd (10 ^ 12) n2 w2 y) (h1 : n1 ≤ 64) (h2 : n2 ≤ 64) : ∃ b, eqB st x y = some b := by
  obtain ⟨p, e1, _⟩ := pl_pd (Nat.le_refl _) _ gx.1
  obtain ⟨q, e2, _⟩ := pl_pd (Nat.le_refl _) _ gy.1
  unfold eqB
  split
  all_goals first
    | exact ⟨_, rfl⟩
    | (rw [pdR_of e1, pdR_of e2]
       simp only [shaped_of gx (Nat.le_refl _) h1 e1, shaped_of gy (Nat.le_refl _) h2 e2, and_self, if_true]
       exact ⟨_, rfl⟩)
theorem go_eqAny (gx : Gd (10 ^ 12) n1 w1 x) (gy : Gd (10 ^ 12) n2 w2 y) (h1 : n1 ≤ 64) (h2 : n2 ≤ 64) (q : ∀ b, P (.bl b) st) : (eqD x y st).holds E P := by
  obtain ⟨b, e⟩ := eqB_any (st := st) gx gy h1 h2
  exact go_eqX e (q b)
theorem go_neAny (gx : Gd (10 ^ 12) n1 w1 x) (gy : Gd (10 ^ 12) n2 w2 y) (h1 : n1 ≤ 64) (h2 : n2 ≤ 64) (q : ∀ b, P (.bl b) st) : (neD x y st).holds E P := by
  obtain ⟨b, e⟩ := eqB_any (st := st) gx gy h1 h2
  exact go_neX e (q (!b))
theorem go_c01 {c : Bool} {Q R : Prop} (q : c = true → Q) (r : c = false → R) : (c = true → Q) ∧ (c = false → R) := ⟨q, r⟩
end
end EV

set_option Elab.async false
set_option linter.all false
set_option autoImplicit false
set_option maxRecDepth 100000
set_option maxHeartbeats 1000000
/-! dict displays with texts as keys; such dicts read and written -/
namespace EV
open PySem PySem.Spec PyProof.Rows L2
variable {E : ErP} {Ee : ErS}

def zipS (ks : List Str) (ds : List D) : List (DK × D) := (ks.zip ds).map fun p => (.k (.inr p.1), p.2)
def dsD (ks : List Str) (fl : En → Store → Res (List D)) : En → Store → Res Slot := fun env st => (fl env st).bind fun ds st => if ds.length = ks.length then .ok (.od false (zipS ks ds)) st else .stuck
section
variable {X : Cx} {W : Wi} {pos : Pos}
inductive DsE (X : Cx) (W : Wi) : List (Option Expr) → List Expr → List Str → List (TE × TE) → (En → Store → Res (List D)) → Prop
  | nil : DsE X W [] [] [] [] vNil
  | cons {x : Str} {j : Nat} {p : Pos} {v : Expr} {ks : List (Option Expr)} {vs : List Expr} {xs : List Str} {trs : List (TE × TE)} {f : En → Store → Res D} {fl : En → Store → Res (List D)} :
      EE X W v f → DsE X W ks vs xs trs fl → DsE X W (some (.Constant (.str x) j p) :: ks) (v :: vs) (x :: xs) ((tC (.str x), tE X.K X.mg W f) :: trs) (vCons f fl)
theorem DsE.pps {ks : List (Option Expr)} {vs : List Expr} {xs : List Str} {trs : List (TE × TE)} {fl : En → Store → Res (List D)} (h : DsE X W ks vs xs trs fl) : PPs X pos ks vs trs := by
  induction h with
  | nil => exact pps_nil
  | cons hv _ ih => exact pps_cons pe_str hv ih
theorem DsE.len {ks : List (Option Expr)} {vs : List Expr} {xs : List Str} {trs : List (TE × TE)} {fl : En → Store → Res (List D)} (h : DsE X W ks vs xs trs fl) : ks.length = xs.length ∧ vs.length = xs.length ∧ ks.all (·.isSome) = true := by
  induction h with
  | nil => exact ⟨rfl, rfl, rfl⟩
  | cons _ _ ih => exact ⟨by simp [ih.1], by simp [ih.2.1], by simp [ih.2.2]⟩
def prS (xs : List Str) (ws : List V) : List (Key × V) := (xs.zip ws).map fun p => (.inr p.1, p.2)
def prV (xs : List Str) (ws : List V) : List (V × V) := (prS xs ws).map fun kv => (kV kv.1, kv.2)
theorem ds_reads {ks : List (Option Expr)} {vs : List Expr} {xs : List Str} {trs : List (TE × TE)} {fl : En → Store → Res (List D)} (h : DsE X W ks vs xs trs fl) : ∀ {g : G} {env : En} {st : Store} {os : List Addr} {σ : L2.St} {H : Hp} {Q : List (V × V) → Hp → Prop}, EnvOk X.K X.mg g H env σ os → OsOk g H os → SOk X.K X.mg g st H →
    Post X.K X.mg (RepL X.K X.mg) W g H σ (fl env st) (fun ws H' => ws.length = xs.length → Q (prV xs ws) H') → tPairs trs σ H Q := by
  induction h with
  | nil =>
    intro g env st os σ H Q hv ho hS h
    exact h.here (R := RepL X.K X.mg) .nil hS rfl
  | @cons x j p v ks vs xs trs f fl he hd ih =>
    intro g env st os σ H Q hv ho hS h
    show tE X.K X.mg W f σ H _
    refine ⟨g, env, st, os, hv, ho, hS, ?_⟩
    have h' : Post X.K X.mg (RepL X.K X.mg) W g H σ ((f env st).bind fun x st => (fl env st).bind fun xs st => .ok (x :: xs) st) (fun ws H' => ws.length = (x :: xs).length → Q (prV (x :: xs) ws) H') := h
    refine (Post.bind (R := Rep X.K X.mg) h').imp fun y H1 q => ?_
    obtain ⟨g1, d, st1, s1, r1, S1, h1⟩ := q
    refine ih (hv.step' ho s1) (ho.step s1) S1 ((Post.bind (R := RepL X.K X.mg) h1).imp fun ws H2 q hl => ?_)
    obtain ⟨g2, ds, st2, s2, r2, S2, h2⟩ := q
    exact h2.here (R := RepL X.K X.mg) (.cons (r1.ext s2.ext) r2) S2 (by rw [List.length_cons, List.length_cons, hl])
theorem putK_new {kvs : List (Key × V)} {k : Key} {v : V} (h : k ∉ kvs.map (·.1)) : putK kvs k v = kvs ++ [(k, v)] := by
  unfold putK
  rw [if_neg]
  intro z
  rw [List.any_eq_true] at z
  obtain ⟨p, hp, e⟩ := z
  exact h (List.mem_map.mpr ⟨p, hp, of_decide_eq_true e⟩)
theorem mergeK_new : ∀ {more kvs : List (Key × V)}, ((kvs ++ more).map (·.1)).Nodup → mergeK kvs more = kvs ++ more
  | [], kvs, _ => (List.append_nil _).symm
  | p :: r, kvs, nd => by
    have e : kvs ++ p :: r = (kvs ++ [p]) ++ r := by simp
    have hk : p.1 ∉ kvs.map (·.1) := by
      rw [List.map_append, List.nodup_append] at nd
      exact fun z => nd.2.2 _ z _ (by simp) rfl
    show mergeK (putK kvs p.1 p.2) r = _
    rw [putK_new hk, e]
    exact mergeK_new (by rw [← e]; exact nd)
theorem prS_keys : ∀ {xs : List Str} {ws : List V}, ws.length = xs.length → (prS xs ws).map (·.1) = xs.map .inr
  | [], [], _ => rfl
  | x :: xs, w :: ws, h => by
    show Sum.inr x :: (prS xs ws).map (·.1) = _
    rw [prS_keys (by simpa using h)]
    rfl
  | [], _ :: _, h => by simp at h
  | _ :: _, [], h => by simp at h
theorem zipS_keys : ∀ {xs : List Str} {ws : List D}, ws.length = xs.length → (zipS xs ws).map (·.1) = xs.map fun x => .k (.inr x)
  | [], [], _ => rfl
  | x :: xs, w :: ws, h => by
    show DK.k (.inr x) :: (zipS xs ws).map (·.1) = _
    rw [zipS_keys (by simpa using h)]
    rfl
  | [], _ :: _, h => by simp at h
  | _ :: _, [], h => by simp at h
theorem repD_zip {K : PySem.W.Frag} {mg : Str → Option Value} {g : G} : ∀ {xs : List Str} {ds : List D} {ws : List V}, RepL K mg g ds ws → RepD K mg g (zipS xs ds) (.dK (prS xs ws))
  | [], _, _, _ => .nilK
  | _ :: _, _, _, .nil => .nilK
  | _ :: _, _, _, .cons r t => .consK r (repD_zip t)
theorem s_disp {ks : List (Option Expr)} {vs : List Expr} {xs : List Str} {trs : List (TE × TE)} {fl : En → Store → Res (List D)} (h : DsE X W ks vs xs trs fl) (h0 : ks ≠ []) (h15 : xs.length ≤ 15) (nd : xs.Nodup) : SE X W (.Dict ks vs pos) (dsD xs fl) := by
  obtain ⟨l1, l2, l3⟩ := h.len
  refine ⟨fun pins s σ H Q I q => (pe_disp h.pps l3 (l1.trans l2.symm) h0 (by rw [l1]; exact h15)).run pins s σ H Q I fun p hp => ?_⟩
  obtain ⟨g, env, st, os, hv, ho, hS, q⟩ := q
  obtain ⟨S1, s1, o1⟩ := hS.newO (o := .dK []) hp
  have s0 : Step g H [] g (upd H p (.dK [])) [] := ⟨s1.ext, s1.fr, s1.th, s1.nf, s1.nk, fun _ z => nomatch z⟩
  have q0 : PostS X.K X.mg W g H σ ((fl env st).bind fun ds st => if ds.length = xs.length then .ok (.od false (zipS xs ds)) st else .stuck) Q := q
  refine ds_reads h (hv.step' ho s0) (ho.step s0) S1 ?_
  revert q0
  generalize fl env st = r
  intro q0
  cases r with
  | stuck => exact q0
  | er e st1 => exact fun g2 H2 s2 S2 => q0 g2 H2 (s0.trans s2) S2
  | ok ds st1 =>
    have q1 : PostS X.K X.mg W g H σ (if ds.length = xs.length then .ok (.od false (zipS xs ds)) st1 else .stuck) Q := q0
    intro ws g2 H2 s2 rl S2 hl
    rw [if_pos (rl.length.trans hl)] at q1
    have hd : H2 p = some (.dK []) := (s2.fr p (by rw [upd_same]; simp) (fun z => o1.fp p (by simp) z) (by simp)).trans upd_same
    have o2 := o1.step s2
    have hz : (prS xs ws).length = xs.length := by
      have e := congrArg List.length (prS_keys hl)
      rw [List.length_map, List.length_map] at e
      exact e
    have ndk : ((([] : List (Key × V)) ++ prS xs ws).map (·.1)).Nodup := by
      rw [List.nil_append, prS_keys hl]
      exact List.Pairwise.map _ (fun a b h z => h (Sum.inr.inj z)) nd
    refine ⟨hd, prS xs ws, rfl, by rw [hz]; exact h15, ?_⟩
    rw [mergeK_new ndk, List.nil_append]
    have ndz : ((zipS xs ds).map (·.1)).Nodup := by
      rw [zipS_keys (rl.length.trans hl)]
      exact List.Pairwise.map _ (fun a b h z => h (by cases z; rfl)) nd
    exact q1 (.ref p) g2 _ [p] ((s1.trans (s2.frame [p])).trans (Step.wrO (by simp) (by rw [hd]; simp) fun _ z => z)) (osOk_one upd_same (o2.kp p (by simp)) (o2.fp p (by simp))) (.od upd_same (repD_zip rl) trivial ndz) (S2.wrO (o2.kp p (by simp)) (o2.fp p (by simp)))
end
section
variable {st : Store} {env : En} {P : D → Store → Prop} {PS : Slot → Store → Prop}
def DsQ (xs : List Str) (ds : List D) (Q : List (DK × D) → Prop) : Prop := ds.length = xs.length ∧ Q (zipS xs ds)
theorem go_ds {xs : List Str} {ds : List D} {kvs : List (DK × D)} {Q : List (DK × D) → Prop} (l : ds.length = xs.length) (e : zipS xs ds = kvs) (q : Q kvs) : DsQ xs ds Q := ⟨l, e ▸ q⟩
theorem zipS_nil : zipS [] [] = [] := rfl
theorem zipS_cons {x : Str} {xs : List Str} {d : D} {ds : List D} : zipS (x :: xs) (d :: ds) = (.k (.inr x), d) :: zipS xs ds := rfl
theorem go_disp {xs : List Str} {fl : En → Store → Res (List D)} (q : (fl env st).holds E fun ds st => DsQ xs ds fun kvs => PS (.od false kvs) st) : (dsD xs fl env st).holds E PS := by
  unfold dsD
  rw [Res.holds_bind]
  refine q.imp fun ds st h => ?_
  rw [if_pos h.1]
  exact h.2
theorem lkd_hd {k : DK} {d : D} {r : List (DK × D)} : lkD ((k, d) :: r) k = some d := if_pos rfl
theorem lkd_tl {k x : DK} {d e : D} {r : List (DK × D)} (h : ¬x = k) (q : lkD r k = some e) : lkD ((x, d) :: r) k = some e := (if_neg h).trans q
/-- d[key], d a dict of the store -/
theorem go_ixS {n : Nat} {t : Bool} {kvs : List (DK × D)} {x : Str} {d : D} (h : st[n]? = some (.cell (.od t kvs))) (hl : lkD kvs (.k (.inr x)) = some d) (q : P d st) : (ixD (.ref n) (.str x) st).holds E P := by
  unfold ixD
  have e : dictOf st (.ref n) = some kvs := by
    unfold dictOf
    simp only [h]
  simp only [e, dkOf, hl]
  exact q
theorem go_ixI {n : Nat} {t : Bool} {kvs : List (DK × D)} {x : Int} {d : D} (h : st[n]? = some (.cell (.od t kvs))) (hl : lkD kvs (.k (.inl x)) = some d) (q : P d st) : (ixD (.ref n) (.int x) st).holds E P := by
  unfold ixD
  have e : dictOf st (.ref n) = some kvs := by
    unfold dictOf
    simp only [h]
  simp only [e, dkOf, hl]
  exact q
/-- d[key] = v -/
theorem setR_S {n : Nat} {kvs kvs' : List (DK × D)} {x : Str} {d : D} (h : st[n]? = some (.cell (.od false kvs))) (hz : kvs.length < sizeLine) (e : putD kvs (.k (.inr x)) d = kvs') : setR (.ref n) (.str x) d st = some (st.set n (.cell (.od false kvs'))) := by
  subst e
  unfold setR
  simp only [h, dkOf, DK.isT, true_and, if_pos hz]
theorem nd_hd {k : DK} {d d' : D} {r : List (DK × D)} : putD ((k, d) :: r) k d' = (k, d') :: r := if_pos rfl
theorem nd_tl {k x : DK} {d d' : D} {r r' : List (DK × D)} (h : ¬x = k) (q : putD r k d' = r') : putD ((x, d) :: r) k d' = (x, d) :: r' := (if_neg h).trans (by rw [q])
theorem go_setRS {n : Nat} {kvs kvs' : List (DK × D)} {x : Str} {d : D} {Q : Store → Prop} (h : st[n]? = some (.cell (.od false kvs))) (hz : kvs.length < 1000) (e : putD kvs (.k (.inr x)) d = kvs') (q : Q (st.set n (.cell (.od false kvs')))) : ∃ st', setR (.ref n) (.str x) d st = some st' ∧ Q st' := ⟨_, setR_S h (Nat.lt_of_lt_of_le hz line1000) e, q⟩
/-! a text in a list of texts -/
theorem pds_strs : ∀ ws : List Str, D.pds (ws.map D.str) = some (ws.map PyData.str)
  | [] => rfl
  | w :: ws => by
    show (match (D.str w).pd, D.pds (ws.map D.str) with | some a, some r => some (a :: r) | _, _ => none) = _
    rw [pds_strs ws]
    rfl
abbrev okS (x : Str) : Prop := x.cps.all (· < 0x110000) = true
theorem shaped_strs {ws : List Str} (h : ∀ x ∈ ws, okS x) : SeqAt.shaped (.list (ws.map PyData.str)) = true := by
  obtain ⟨n, hn⟩ : ∃ n, Gds (10 ^ 12) 0 n (ws.map D.str) := by
    induction ws with
    | nil => exact ⟨0, Gds.nil⟩
    | cons x ws ih =>
      obtain ⟨n, hn⟩ := ih fun y hy => h y (List.mem_cons_of_mem _ hy)
      exact ⟨_, Gds.cons (gd_str (h x List.mem_cons_self) (Nat.le_refl _)) (hn.le (Nat.le_refl _) (Nat.le_refl _)) |>.le (Nat.le_refl _) (Nat.le_refl _)⟩
  refine shaped_of (Gd.lst hn) (Nat.le_refl _) (by decide) ?_
  unfold D.pd
  rw [pds_strs]
  rfl
theorem inB_strs {ws : List Str} {x : Str} (h : ∀ x ∈ ws, okS x) (hx : okS x) : inB (.str x) (ws.map D.str) = some (ws.any fun w => w == x) := by
  have e1 : D.pd (.str x) = some (.str x) := by unfold D.pd; rfl
  have s1 := shaped_of (gd_str (N := 10 ^ 12) (n := 0) hx (Nat.le_refl _)) (Nat.le_refl _) (by decide) e1
  unfold inB
  rw [e1, pds_strs]
  show (if _ then _ else _) = _
  rw [if_pos ⟨s1, shaped_strs h⟩]
  congr 1
  rw [List.any_map]
  refine congrArg (fun f => ws.any f) (funext fun w => ?_)
  show PyData.eqv (.str w) (.str x) = _
  unfold PyData.eqv
  exact rfl
/-- a text in a list of given texts -/
theorem go_inLS {ws : List Str} {ys : List D} {x : Str} (e : ys = ws.map D.str) (h : ∀ x ∈ ws, okS x) (hx : okS x) (q : P (.bl (ws.any fun w => w == x)) st) : (inD (.str x) (.lst ys) st).holds E P := by
  subst e
  exact go_inL (inB_strs h hx) q
theorem go_notinLS {ws : List Str} {ys : List D} {x : Str} (e : ys = ws.map D.str) (h : ∀ x ∈ ws, okS x) (hx : okS x) (q : P (.bl (!ws.any fun w => w == x)) st) : (notinD (.str x) (.lst ys) st).holds E P := by
  subst e
  exact go_notinL (inB_strs h hx) q
end
end EV

set_option Elab.async false
set_option linter.all false
set_option autoImplicit false
set_option maxRecDepth 100000
set_option maxHeartbeats 4000000
namespace LAW
open PySem PySem.Spec PyProof.Rows L2 EV
def top (i : Nat) : Stmt := PySem.Challenge.pw_climborsink_k45_phases_of_a_chief.main.body.getD i (.Pass ⟨0, 0, 0, 0⟩)
def kt_SETTLED : List (Str × List Str) := [("asking", ["held", "hold"]), ("clearing", ["clear", "free"])]
/-- what stands in the module besides the defs -/
structure Mod0 (K : PySem.W.Frag) (w : World) (mg : Str → Option Value) : Prop where
  b_abs : mg "abs" = none
  b_all : mg "all" = none
  b_bool : mg "bool" = none
  b_isinstance : mg "isinstance" = none
  b_len : mg "len" = none
  b_list : mg "list" = none
  b_max : mg "max" = none
  b_min : mg "min" = none
  b_range : mg "range" = none
  b_repr : mg "repr" = none
  b_sorted : mg "sorted" = none
  b_str : mg "str" = none
  b_tuple : mg "tuple" = none
  k_ASKING : ∃ t, mg "ASKING" = some (.str "asking" t)
  k_CLEAR : ∃ t, mg "CLEAR" = some (.str "clear" t)
  k_CLEARING : ∃ t, mg "CLEARING" = some (.str "clearing" t)
  k_DEALT : ∃ t, mg "DEALT" = some (.str "dealt" t)
  k_HELD : ∃ t, mg "HELD" = some (.str "held" t)
  dt_SETTLED : DictT K w mg "SETTLED" kt_SETTLED
  f_at_turn : FldTab K mg "at_turn" ["Chief"]
  f_have_agreed : FldTab K mg "have_agreed" ["Chief"]
  f_now : FldTab K mg "now" ["Chief"]
  f_own : FldTab K mg "own" ["Chief"]
  f_places : FldTab K mg "places" ["Chief"]
  f_told : FldTab K mg "told" ["Chief"]
  tc_WORDS : TupC K mg "WORDS" ["climb", "hold", "sink"]
  xf_NoWords_told : XfAt K mg "NoWords" "told"
  xf_NotAgreed_missing : XfAt K mg "NotAgreed" "missing"
  xf_NotAgreed_now : XfAt K mg "NotAgreed" "now"
  xt_NoWords : ExTab K mg ["NoWords", "NotAgreed"] "NoWords"
  xt_NotAgreed : ExTab K mg ["NoWords", "NotAgreed"] "NotAgreed"
  z : True
theorem Mod0.c_ASKING {X : Cx} {W : Wi} {pos : Pos} (M : Mod0 X.K X.w X.mg) (hg : Gl X "ASKING") : EE X W (.Name "ASKING" pos) (vC (.str "asking")) := by
  obtain ⟨t, h⟩ := M.k_ASKING
  exact e_glob (v := .str "asking") hg h ⟨t, rfl⟩ fun _ => .str _
theorem Mod0.c_CLEAR {X : Cx} {W : Wi} {pos : Pos} (M : Mod0 X.K X.w X.mg) (hg : Gl X "CLEAR") : EE X W (.Name "CLEAR" pos) (vC (.str "clear")) := by
  obtain ⟨t, h⟩ := M.k_CLEAR
  exact e_glob (v := .str "clear") hg h ⟨t, rfl⟩ fun _ => .str _
theorem Mod0.c_CLEARING {X : Cx} {W : Wi} {pos : Pos} (M : Mod0 X.K X.w X.mg) (hg : Gl X "CLEARING") : EE X W (.Name "CLEARING" pos) (vC (.str "clearing")) := by
  obtain ⟨t, h⟩ := M.k_CLEARING
  exact e_glob (v := .str "clearing") hg h ⟨t, rfl⟩ fun _ => .str _
theorem Mod0.c_DEALT {X : Cx} {W : Wi} {pos : Pos} (M : Mod0 X.K X.w X.mg) (hg : Gl X "DEALT") : EE X W (.Name "DEALT" pos) (vC (.str "dealt")) := by
  obtain ⟨t, h⟩ := M.k_DEALT
  exact e_glob (v := .str "dealt") hg h ⟨t, rfl⟩ fun _ => .str _
theorem Mod0.c_HELD {X : Cx} {W : Wi} {pos : Pos} (M : Mod0 X.K X.w X.mg) (hg : Gl X "HELD") : EE X W (.Name "HELD" pos) (vC (.str "held")) := by
  obtain ⟨t, h⟩ := M.k_HELD
  exact e_glob (v := .str "held") hg h ⟨t, rfl⟩ fun _ => .str _
abbrev s_NoWords___init__ : Stmt := inClass (top 1) 0
theorem sc_NoWords___init__ : FnScope ["self", "told"] ["self", "told"] (defScope s_NoWords___init__) := ⟨rfl, rfl, rfl, by decide +kernel, rfl, by decide +kernel, by decide +kernel⟩
abbrev s_NotAgreed___init__ : Stmt := inClass (top 2) 0
theorem sc_NotAgreed___init__ : FnScope ["self", "now", "missing"] ["self", "now", "missing"] (defScope s_NotAgreed___init__) := ⟨rfl, rfl, rfl, by decide +kernel, rfl, by decide +kernel, by decide +kernel⟩
/-! ### is_row -/
abbrev s_is_row : Stmt := top 4
theorem sc_is_row : FnScope ["thing", "least", "most"] ["thing", "least", "most"] (defScope s_is_row) := ⟨rfl, rfl, rfl, by decide +kernel, rfl, by decide +kernel, by decide +kernel⟩
def B_is_row : En → Store → ResS :=
  sRet (vAndV (vA isiD (vCons (vName 0) (vCons (vC (.ty "tuple")) (vNil)))) (vChain leD leD (vName 1) (vA lenD (vCons (vName 0) (vNil))) (vName 2)))
def F_is_row : List D → Store → Res D := fnF 3 0 B_is_row
theorem ok_is_row {P : Program} {w : World} {K : PySem.W.Frag} {mg : Str → Option Value} {base : Heap} (M : Mod0 K w mg) (T : TopDef K mg "is_row" s_is_row ["thing", "least", "most"])  : DefOk P w K mg base "is_row" 1 ["thing", "least", "most"] F_is_row :=
  def_ok (k := 0) (body := B_is_row) T sc_is_row rfl fun f cdv A outer s H E hr tk =>
  (ss_one (st_ret (e_and (e_callB (x := "isinstance") b_isinstance rfl M.b_isinstance (by decide +kernel) (a_cons (e_name 0 rfl (.inl rfl)) (a_cons (e_bltn rfl M.b_tuple (by decide +kernel) (show RelV (.ty "tuple") _ from rfl) fun _ => .ty "tuple") a_nil))) (e_one (e_chain o_le o_le (e_name 1 rfl (.inl rfl)) (e_callB (x := "len") b_len rfl M.b_len (by decide +kernel) (a_cons (e_name 0 rfl (.inl rfl)) a_nil)) (e_name 2 rfl (.inl rfl)))))))
/-! ### are_words -/
abbrev s_are_words : Stmt := top 13
theorem sc_are_words : FnScope ["thing", "many", "word"] ["thing", "many"] (defScope s_are_words) := ⟨rfl, rfl, rfl, by decide +kernel, rfl, by decide +kernel, by decide +kernel⟩
def B_are_words : En → Store → ResS :=
  sRet (vAndV (vA (fnN 3 F_is_row) (vCons (vName 0) (vCons (vName 1) (vCons (vName 1) (vNil))))) (vA allD (vCons (vFrz (vLc (v1 seqF (vName 0)) (.n 2) [2] (ttYes) (vAndV (vA isiD (vCons (vName 2) (vCons (vC (.ty "str")) (vNil)))) (v2 inK (vName 2) (vC (.st ((["climb", "hold", "sink"] : List Str).map .str))))))) (vNil))))
def F_are_words : List D → Store → Res D := fnF 2 1 B_are_words
theorem ok_are_words {P : Program} {w : World} {K : PySem.W.Frag} {mg : Str → Option Value} {base : Heap} (M : Mod0 K w mg) (T : TopDef K mg "are_words" s_are_words ["thing", "many"]) (D_is_row : DefOk P w K mg base "is_row" 1 ["thing", "least", "most"] F_is_row) : DefOk P w K mg base "are_words" 2 ["thing", "many"] F_are_words :=
  def_ok (k := 1) (body := B_are_words) T sc_are_words rfl fun f cdv A outer s H E hr tk =>
  (ss_one (st_ret (e_and (e_def (x := "is_row") (ps := ["thing", "least", "most"]) D_is_row hr (by omega) tk rfl (a_cons (e_name 0 rfl (.inl rfl)) (a_cons (e_name 1 rfl (.inl rfl)) (a_cons (e_name 1 rfl (.inl rfl)) a_nil)))) (e_one (e_callB (x := "all") (b_all rfl) rfl M.b_all (by decide +kernel) (a_cons (e_frz (s_lc0 (own := [("word", 2)]) (N0 := ["thing", "many", "word"]) (sc0 := defScope s_are_words) rfl sc_are_words.nd (i_seq (e_name 0 rfl (.inl rfl))) (by decide +kernel) rfl rfl (by decide) (fun _ _ _ _ _ => (pat_n 2 sc_are_words.nd rfl (.inl rfl)))  (fun _ _ _ _ _ => by exact (e_and (e_callB (x := "isinstance") b_isinstance rfl M.b_isinstance (by decide +kernel) (a_cons (e_name 2 rfl (.inl rfl)) (a_cons (e_bltn rfl M.b_str (by decide +kernel) (show RelV (.ty "str") _ from rfl) fun _ => .ty "str") a_nil))) (e_one (e_cmp o_inK (e_name 2 rfl (.inl rfl)) (e_tupc M.tc_WORDS rfl) rfl)))))) a_nil))))))
/-! ### _law_urn -/
abbrev s__law_urn : Stmt := top 16
theorem sc__law_urn : FnScope ["_law_script", "_law_spot", "_law_cell", "_law_great"] ["_law_script", "_law_spot"] (defScope s__law_urn) := ⟨rfl, rfl, rfl, by decide +kernel, rfl, by decide +kernel, by decide +kernel⟩
def B__law_urn : En → Store → ResS :=
  sSeq (sSet 2 (vC (.int 0)))
  (sSeq (sIf (vB (v2 ltD (vName 1) (vA lenD (vCons (vName 0) (vNil))))) (sSet 2 (v2 ixD (vName 0) (vName 1))) (sNil))
  (sSeq (sSet 3 (vA absD (vCons (vName 2) (vNil))))
  (sSeq (sIf (vB (v2 ltD (vName 3) (v2 powD (vC (.int 10)) (vC (.int 18))))) (sSet 3 (vC (.int 0))) (sNil))
  (sRet (vRef (vA mkLst (vCons (vName 3) (vCons (v2 addD (v2 addD (v2 addD (v2 modD (vName 2) (vC (.int 1000000000000000003))) (v2 mulD (v2 mulD (vC (.int 97)) (vName 1)) (vName 1))) (v2 mulD (vC (.int 31)) (vName 1))) (vC (.int 1))) (vCons (vC (.int 0)) (vNil))))))))))
def F__law_urn : List D → Store → Res D := fnF 2 2 B__law_urn
theorem ok__law_urn {P : Program} {w : World} {K : PySem.W.Frag} {mg : Str → Option Value} {base : Heap} (M : Mod0 K w mg) (T : TopDef K mg "_law_urn" s__law_urn ["_law_script", "_law_spot"])  : DefOk P w K mg base "_law_urn" 1 ["_law_script", "_law_spot"] F__law_urn :=
  def_ok (k := 0) (body := B__law_urn) T sc__law_urn rfl fun f cdv A outer s H E hr tk =>
  (ss_cons (st_set 2 sc__law_urn.nd rfl (.inl rfl) e_int)
  (ss_cons (st_if (t_cmp o_lt (e_name 1 rfl (.inl rfl)) (e_callB (x := "len") b_len rfl M.b_len (by decide +kernel) (a_cons (e_name 0 rfl (.inl rfl)) a_nil)) (nomark _)) (ss_one (st_set 2 sc__law_urn.nd rfl (.inl rfl) (e_ix hr (e_name 0 rfl (.inl rfl)) (e_name 1 rfl (.inl rfl)) fun _ _ => rfl))) ss_nil)
  (ss_cons (st_set 3 sc__law_urn.nd rfl (.inl rfl) (e_callB (x := "abs") b_abs rfl M.b_abs (by decide +kernel) (a_cons (e_name 2 rfl (.inl rfl)) a_nil)))
  (ss_cons (st_if (t_cmp o_lt (e_name 3 rfl (.inl rfl)) (e_bin o_pow e_int e_int) (nomark _)) (ss_one (st_set 3 sc__law_urn.nd rfl (.inl rfl) e_int)) ss_nil)
  (ss_one (st_ret (e_ref (s_lst (a_cons (e_name 3 rfl (.inl rfl)) (a_cons (e_bin o_add (e_bin o_add (e_bin o_add (e_bin o_mod (e_name 2 rfl (.inl rfl)) e_int) (e_bin o_mul (e_bin o_mul e_int (e_name 1 rfl (.inl rfl))) (e_name 1 rfl (.inl rfl)))) (e_bin o_mul e_int (e_name 1 rfl (.inl rfl)))) e_int) (a_cons e_int a_nil)))))))))))
/-! ### _law_draw -/
abbrev s__law_draw : Stmt := top 17
theorem sc__law_draw : FnScope ["_law_urn_here", "_law_wide", "_law_digit", "_law_primes", "_law_step", "_law_base", "_law_mixed"] ["_law_urn_here", "_law_wide"] (defScope s__law_draw) := ⟨rfl, rfl, rfl, by decide +kernel, rfl, by decide +kernel, by decide +kernel⟩
def B__law_draw : En → Store → ResS :=
  sSeq (sIf (vB (v2 gtD (v2 ixD (vName 0) (vC (.int 0))) (vC (.int 0)))) (sSeq (sSet 2 (v2 modD (v2 ixD (vName 0) (vC (.int 0))) (vName 1)))
  (sSeq (sAsg (v2 fdivD (v2 ixD (vName 0) (vC (.int 0))) (vName 1)) (gSubR (vName 0) (vC (.int 0))))
  (sRet (vName 2)))) (sNil))
  (sSeq (sSet 3 (vA mkTup (vCons (vC (.int 2147483647)) (vCons (vC (.int 2147483629)) (vCons (vC (.int 2147483587)) (vCons (vC (.int 2147483579)) (vCons (vC (.int 2147483563)) (vCons (vC (.int 2147483549)) (vCons (vC (.int 2147483543)) (vNil))))))))))
  (sSeq (sAsg (v2 addD (v2 ixD (vName 0) (vC (.int 2))) (vC (.int 1))) (gSubR (vName 0) (vC (.int 2))))
  (sSeq (sSet 4 (v2 ixD (vName 0) (vC (.int 2))))
  (sSeq (sSet 5 (v2 addD (v2 addD (v2 mulD (v2 ixD (vName 0) (vC (.int 1))) (v2 addD (v2 mulD (vC (.int 2)) (vName 4)) (vC (.int 1)))) (v2 mulD (v2 mulD (vC (.int 6007)) (vName 4)) (vName 4))) (vC (.int 53))))
  (sSeq (sSet 6 (v2 modD (v2 powD (vName 5) (vC (.int 3))) (v2 ixD (vName 3) (v2 modD (vName 4) (vC (.int 7))))))
  (sRet (v2 modD (v2 fdivD (v2 modD (v2 mulD (vName 6) (v2 addD (v2 fdivD (vName 6) (vC (.int 8191))) (vName 4))) (v2 ixD (vName 3) (v2 modD (v2 addD (vName 4) (vC (.int 3))) (vC (.int 7))))) (vC (.int 16))) (vName 1))))))))
def F__law_draw : List D → Store → Res D := fnF 2 5 B__law_draw
theorem ok__law_draw {P : Program} {w : World} {K : PySem.W.Frag} {mg : Str → Option Value} {base : Heap} (M : Mod0 K w mg) (T : TopDef K mg "_law_draw" s__law_draw ["_law_urn_here", "_law_wide"])  : DefOk P w K mg base "_law_draw" 1 ["_law_urn_here", "_law_wide"] F__law_draw :=
  def_ok (k := 0) (body := B__law_draw) T sc__law_draw rfl fun f cdv A outer s H E hr tk =>
  (ss_cons (st_if (t_cmp o_gt (e_ix hr (e_name 0 rfl (.inl rfl)) e_int fun _ _ => rfl) e_int (nomark _)) (ss_cons (st_set 2 sc__law_draw.nd rfl (.inl rfl) (e_bin o_mod (e_ix hr (e_name 0 rfl (.inl rfl)) e_int fun _ _ => rfl) (e_name 1 rfl (.inl rfl))))
  (ss_cons (st_asg (e_bin o_fdiv (e_ix hr (e_name 0 rfl (.inl rfl)) e_int fun _ _ => rfl) (e_name 1 rfl (.inl rfl))) (g_subR hr (e_name 0 rfl (.inl rfl)) e_int))
  (ss_one (st_ret (e_name 2 rfl (.inl rfl)))))) ss_nil)
  (ss_cons (st_set 3 sc__law_draw.nd rfl (.inl rfl) (e_tup (a_cons e_int (a_cons e_int (a_cons e_int (a_cons e_int (a_cons e_int (a_cons e_int (a_cons e_int a_nil)))))))))
  (ss_cons (st_asg (e_bin o_add (e_ix hr (e_name 0 rfl (.inl rfl)) e_int fun _ _ => rfl) e_int) (g_subR hr (e_name 0 rfl (.inl rfl)) e_int))
  (ss_cons (st_set 4 sc__law_draw.nd rfl (.inl rfl) (e_ix hr (e_name 0 rfl (.inl rfl)) e_int fun _ _ => rfl))
  (ss_cons (st_set 5 sc__law_draw.nd rfl (.inl rfl) (e_bin o_add (e_bin o_add (e_bin o_mul (e_ix hr (e_name 0 rfl (.inl rfl)) e_int fun _ _ => rfl) (e_bin o_add (e_bin o_mul e_int (e_name 4 rfl (.inl rfl))) e_int)) (e_bin o_mul (e_bin o_mul e_int (e_name 4 rfl (.inl rfl))) (e_name 4 rfl (.inl rfl)))) e_int))
  (ss_cons (st_set 6 sc__law_draw.nd rfl (.inl rfl) (e_bin o_mod (e_bin o_pow (e_name 5 rfl (.inl rfl)) e_int) (e_ix hr (e_name 3 rfl (.inl rfl)) (e_bin o_mod (e_name 4 rfl (.inl rfl)) e_int) fun _ _ => rfl)))
  (ss_one (st_ret (e_bin o_mod (e_bin o_fdiv (e_bin o_mod (e_bin o_mul (e_name 6 rfl (.inl rfl)) (e_bin o_add (e_bin o_fdiv (e_name 6 rfl (.inl rfl)) e_int) (e_name 4 rfl (.inl rfl)))) (e_ix hr (e_name 3 rfl (.inl rfl)) (e_bin o_mod (e_bin o_add (e_name 4 rfl (.inl rfl)) e_int) e_int) fun _ _ => rfl)) e_int) (e_name 1 rfl (.inl rfl)))))))))))
/-! ### _law_words -/
abbrev s__law_words : Stmt := top 18
theorem sc__law_words : FnScope ["_law_urn_here", "_law_many", "_law_k"] ["_law_urn_here", "_law_many"] (defScope s__law_words) := ⟨rfl, rfl, rfl, by decide +kernel, rfl, by decide +kernel, by decide +kernel⟩
def B__law_words : En → Store → ResS :=
  sRet (vA tupOfD (vCons (vFrz (vLc (vA rng1F (vCons (vName 1) (vNil))) (.n 2) [2] (ttYes) (v2 ixD (vFrz (vA mkLst (vCons (vC (.str "climb")) (vCons (vC (.str "hold")) (vCons (vC (.str "sink")) (vNil)))))) (vA (fnN 2 F__law_draw) (vCons (vName 0) (vCons (vC (.int 3)) (vNil))))))) (vNil)))
def F__law_words : List D → Store → Res D := fnF 2 1 B__law_words
theorem ok__law_words {P : Program} {w : World} {K : PySem.W.Frag} {mg : Str → Option Value} {base : Heap} (M : Mod0 K w mg) (T : TopDef K mg "_law_words" s__law_words ["_law_urn_here", "_law_many"]) (D__law_draw : DefOk P w K mg base "_law_draw" 1 ["_law_urn_here", "_law_wide"] F__law_draw) : DefOk P w K mg base "_law_words" 2 ["_law_urn_here", "_law_many"] F__law_words :=
  def_ok (k := 1) (body := B__law_words) T sc__law_words rfl fun f cdv A outer s H E hr tk =>
  (ss_one (st_ret (e_callTy (x := "tuple") b_tuple rfl M.b_tuple (by decide +kernel) (a_cons (e_frz (s_lc0 (own := [("_law_k", 2)]) (N0 := ["_law_urn_here", "_law_many", "_law_k"]) (sc0 := defScope s__law_words) rfl sc__law_words.nd (i_range1 rfl M.b_range (a_cons (e_name 1 rfl (.inl rfl)) a_nil)) (by decide +kernel) rfl rfl (by decide) (fun _ _ _ _ _ => (pat_n 2 sc__law_words.nd rfl (.inl rfl)))  (fun _ _ _ _ _ => by exact (e_ix hr (e_frz (s_lst (a_cons e_str (a_cons e_str (a_cons e_str a_nil))))) (e_def (x := "_law_draw") (ps := ["_law_urn_here", "_law_wide"]) D__law_draw hr (by omega) takes0 rfl (a_cons (e_name 0 rfl (.inr (.inl rfl))) (a_cons e_int a_nil))) fun _ _ => rfl)))) a_nil))))
/-! ### _law_chief_state -/
abbrev s__law_chief_state : Stmt := top 19
theorem sc__law_chief_state : FnScope ["_law_many"] ["_law_many"] (defScope s__law_chief_state) := ⟨rfl, rfl, rfl, by decide +kernel, rfl, by decide +kernel, by decide +kernel⟩
def B__law_chief_state : En → Store → ResS :=
  sRet (vRef (dsD ["turn", "now", "own", "told", "agreed"] (vCons (vC (.int 0)) (vCons (vC (.str "clear")) (vCons (vC (.str "free")) (vCons (v2 repD (vA mkTup (vCons (vC (.str "free")) (vNil))) (vName 0)) (vCons (vFrz (v2 lrng2 (vC (.int 1)) (vName 0))) (vNil))))))))
def F__law_chief_state : List D → Store → Res D := fnF 1 0 B__law_chief_state
theorem ok__law_chief_state {P : Program} {w : World} {K : PySem.W.Frag} {mg : Str → Option Value} {base : Heap} (M : Mod0 K w mg) (T : TopDef K mg "_law_chief_state" s__law_chief_state ["_law_many"])  : DefOk P w K mg base "_law_chief_state" 1 ["_law_many"] F__law_chief_state :=
  def_ok (k := 0) (body := B__law_chief_state) T sc__law_chief_state rfl fun f cdv A outer s H E hr tk =>
  (ss_one (st_ret (e_ref (s_disp (xs := ["turn", "now", "own", "told", "agreed"]) (DsE.cons e_int (DsE.cons e_str (DsE.cons e_str (DsE.cons (e_bin o_rep (e_tup (a_cons e_str a_nil)) (e_name 0 rfl (.inl rfl))) (DsE.cons (e_frz (s_listrange2 rfl rfl M.b_list rfl M.b_range e_int (e_name 0 rfl (.inl rfl)))) DsE.nil))))) (by simp) (by decide) (by decide +kernel)))))
/-! ### _law_silent -/
abbrev s__law_silent : Stmt := top 20
theorem sc__law_silent : FnScope ["_law_state", "_law_place"] ["_law_state"] (defScope s__law_silent) := ⟨rfl, rfl, rfl, by decide +kernel, rfl, by decide +kernel, by decide +kernel⟩
def B__law_silent : En → Store → ResS :=
  sRet (vFrz (vLc (vA rng2F (vCons (vC (.int 1)) (vCons (vA lenD (vCons (v2 ixD (vName 0) (vC (.str "told"))) (vNil))) (vNil)))) (.n 1) [1] (vB (v2 notinD (vName 1) (v2 ixD (vName 0) (vC (.str "agreed"))))) (vName 1)))
def F__law_silent : List D → Store → Res D := fnF 1 1 B__law_silent
theorem ok__law_silent {P : Program} {w : World} {K : PySem.W.Frag} {mg : Str → Option Value} {base : Heap} (M : Mod0 K w mg) (T : TopDef K mg "_law_silent" s__law_silent ["_law_state"])  : DefOk P w K mg base "_law_silent" 1 ["_law_state"] F__law_silent :=
  def_ok (k := 0) (body := B__law_silent) T sc__law_silent rfl fun f cdv A outer s H E hr tk =>
  (ss_one (st_ret (e_frz (s_lc1 (own := [("_law_place", 1)]) (N0 := ["_law_state", "_law_place"]) (sc0 := defScope s__law_silent) rfl sc__law_silent.nd (i_range2 rfl M.b_range (a_cons e_int (a_cons (e_callB (x := "len") b_len rfl M.b_len (by decide +kernel) (a_cons (e_ix hr (e_name 0 rfl (.inr (.inl rfl))) e_str fun _ _ => rfl) a_nil)) a_nil))) (by decide +kernel) rfl rfl (by decide) (fun _ _ _ _ _ => (pat_n 1 sc__law_silent.nd rfl (.inl rfl))) (fun _ _ _ _ _ => by exact (t_cmp (o_notin hr) (e_name 1 rfl (.inl rfl)) (e_ix hr (e_name 0 rfl (.inr (.inl rfl))) e_str fun _ _ => rfl) rfl)) (fun _ _ _ _ _ => by exact (e_name 1 rfl (.inl rfl)))))))
/-! ### _law_begun -/
abbrev s__law_begun : Stmt := top 21
theorem sc__law_begun : FnScope ["_law_state", "_law_now", "_law_told", "_law_own"] ["_law_state", "_law_now", "_law_told", "_law_own"] (defScope s__law_begun) := ⟨rfl, rfl, rfl, by decide +kernel, rfl, by decide +kernel, by decide +kernel⟩
def B__law_begun : En → Store → ResS :=
  sSeq (sAsg (v2 addD (v2 ixD (vName 0) (vC (.str "turn"))) (vC (.int 1))) (gSubR (vName 0) (vC (.str "turn"))))
  (sSeq (sAsg (vA mkTup (vCons (vName 1) (vCons (vName 2) (vCons (vName 3) (vCons (vFrz (vA mkLst (vNil))) (vNil)))))) (gTp 4 (gsC (gSubR (vName 0) (vC (.str "now"))) (gsC (gSubR (vName 0) (vC (.str "told"))) (gsC (gSubR (vName 0) (vC (.str "own"))) (gsC (gSubR (vName 0) (vC (.str "agreed"))) (gsN)))))))
  (sRet (vA mkTup (vCons (vC (.str "none")) (vCons (vC .non) (vNil))))))
def F__law_begun : List D → Store → Res D := fnF 4 0 B__law_begun
theorem ok__law_begun {P : Program} {w : World} {K : PySem.W.Frag} {mg : Str → Option Value} {base : Heap} (M : Mod0 K w mg) (T : TopDef K mg "_law_begun" s__law_begun ["_law_state", "_law_now", "_law_told", "_law_own"])  : DefOk P w K mg base "_law_begun" 1 ["_law_state", "_law_now", "_law_told", "_law_own"] F__law_begun :=
  def_ok (k := 0) (body := B__law_begun) T sc__law_begun rfl fun f cdv A outer s H E hr tk =>
  (ss_cons (st_asg (e_bin o_add (e_ix hr (e_name 0 rfl (.inl rfl)) e_str fun _ _ => rfl) e_int) (g_subR hr (e_name 0 rfl (.inl rfl)) e_str))
  (ss_cons (st_asg (e_tup (a_cons (e_name 1 rfl (.inl rfl)) (a_cons (e_name 2 rfl (.inl rfl)) (a_cons (e_name 3 rfl (.inl rfl)) (a_cons (e_frz (s_lst a_nil)) a_nil))))) (g_tup 4 rfl (gs_cons (g_subR hr (e_name 0 rfl (.inl rfl)) e_str) (gs_cons (g_subR hr (e_name 0 rfl (.inl rfl)) e_str) (gs_cons (g_subR hr (e_name 0 rfl (.inl rfl)) e_str) (gs_cons (g_subR hr (e_name 0 rfl (.inl rfl)) e_str) gs_nil))))))
  (ss_one (st_ret (e_tup (a_cons e_str (a_cons e_non a_nil)))))))
/-! ### _law_are_words -/
abbrev s__law_are_words : Stmt := top 22
theorem sc__law_are_words : FnScope ["_law_thing", "_law_many", "_law_word"] ["_law_thing", "_law_many"] (defScope s__law_are_words) := ⟨rfl, rfl, rfl, by decide +kernel, rfl, by decide +kernel, by decide +kernel⟩
def B__law_are_words : En → Store → ResS :=
  sSeq (sIf (vOr (vNot (vB (vA isiD (vCons (vName 0) (vCons (vC (.ty "tuple")) (vNil)))))) (vB (v2 neD (vA lenD (vCons (vName 0) (vNil))) (vName 1)))) (sRet (vC (.bl false))) (sNil))
  (sRet (vA allD (vCons (vFrz (vLc (v1 seqF (vName 0)) (.n 2) [2] (ttYes) (vAndV (vA isiD (vCons (vName 2) (vCons (vC (.ty "str")) (vNil)))) (v2 inD (vName 2) (vFrz (vA mkLst (vCons (vC (.str "climb")) (vCons (vC (.str "hold")) (vCons (vC (.str "sink")) (vNil)))))))))) (vNil))))
def F__law_are_words : List D → Store → Res D := fnF 2 1 B__law_are_words
theorem ok__law_are_words {P : Program} {w : World} {K : PySem.W.Frag} {mg : Str → Option Value} {base : Heap} (M : Mod0 K w mg) (T : TopDef K mg "_law_are_words" s__law_are_words ["_law_thing", "_law_many"])  : DefOk P w K mg base "_law_are_words" 1 ["_law_thing", "_law_many"] F__law_are_words :=
  def_ok (k := 0) (body := B__law_are_words) T sc__law_are_words rfl fun f cdv A outer s H E hr tk =>
  (ss_cons (st_if (PW.pt (bw_or (b_not (t_val (e_callB (x := "isinstance") b_isinstance rfl M.b_isinstance (by decide +kernel) (a_cons (e_name 0 rfl (.inl rfl)) (a_cons (e_bltn rfl M.b_tuple (by decide +kernel) (show RelV (.ty "tuple") _ from rfl) fun _ => .ty "tuple") a_nil))))) (bw_or1 (t_cmp (o_ne hr) (e_callB (x := "len") b_len rfl M.b_len (by decide +kernel) (a_cons (e_name 0 rfl (.inl rfl)) a_nil)) (e_name 1 rfl (.inl rfl)) (nomark _))))) (ss_one (st_ret e_bl)) ss_nil)
  (ss_one (st_ret (e_callB (x := "all") (b_all rfl) rfl M.b_all (by decide +kernel) (a_cons (e_frz (s_lc0 (own := [("_law_word", 2)]) (N0 := ["_law_thing", "_law_many", "_law_word"]) (sc0 := defScope s__law_are_words) rfl sc__law_are_words.nd (i_seq (e_name 0 rfl (.inl rfl))) (by decide +kernel) rfl rfl (by decide) (fun _ _ _ _ _ => (pat_n 2 sc__law_are_words.nd rfl (.inl rfl)))  (fun _ _ _ _ _ => by exact (e_and (e_callB (x := "isinstance") b_isinstance rfl M.b_isinstance (by decide +kernel) (a_cons (e_name 2 rfl (.inl rfl)) (a_cons (e_bltn rfl M.b_str (by decide +kernel) (show RelV (.ty "str") _ from rfl) fun _ => .ty "str") a_nil))) (e_one (e_cmp (o_in hr) (e_name 2 rfl (.inl rfl)) (e_frz (s_lst (a_cons e_str (a_cons e_str (a_cons e_str a_nil))))) rfl)))))) a_nil)))))
/-! ### _law_chief_due -/
abbrev s__law_chief_due : Stmt := top 23
theorem sc__law_chief_due : FnScope ["_law_state", "_law_line", "_law_many", "_law_silent_here", "_law_phases"] ["_law_state", "_law_line"] (defScope s__law_chief_due) := ⟨rfl, rfl, rfl, by decide +kernel, rfl, by decide +kernel, by decide +kernel⟩
def B__law_chief_due : En → Store → ResS :=
  sSeq (sPar 2 3 (vCons (vA lenD (vCons (v2 ixD (vName 0) (vC (.str "told"))) (vNil))) (vCons (vA tupOfD (vCons (vA (fnN 1 F__law_silent) (vCons (vName 0) (vNil))) (vNil))) (vNil))))
  (sSeq (sIf (vAnd (vB (v2 eqD (v2 ixD (vName 1) (vC (.int 0))) (vC (.str "deal")))) (vNot (vB (vA (fnN 2 F__law_are_words) (vCons (v2 ixD (vName 1) (vC (.int 1))) (vCons (vName 2) (vNil))))))) (sRet (vA mkTup (vCons (vC (.str "NoWords")) (vCons (v2 ixD (vName 1) (vC (.int 1))) (vNil))))) (sNil))
  (sSeq (sSet 4 (v2 ixD (vRef (dsD ["deal", "ask", "clear"] (vCons (vFrz (vA mkLst (vCons (vC (.str "clear")) (vCons (vC (.str "held")) (vNil))))) (vCons (vFrz (vA mkLst (vCons (vC (.str "dealt")) (vNil)))) (vCons (vFrz (vA mkLst (vCons (vC (.str "dealt")) (vCons (vC (.str "held")) (vNil))))) (vNil)))))) (v2 ixD (vName 1) (vC (.int 0)))))
  (sSeq (sIf (vOr (vB (v2 notinD (v2 ixD (vName 0) (vC (.str "now"))) (vName 4))) (vB (v2 neD (vName 3) (vA mkTup (vNil))))) (sRet (vA mkTup (vCons (vC (.str "NotAgreed")) (vCons (vA mkTup (vCons (v2 ixD (vName 0) (vC (.str "now"))) (vCons (vName 3) (vNil)))) (vNil))))) (sNil))
  (sSeq (sIf (vB (v2 eqD (v2 ixD (vName 1) (vC (.int 0))) (vC (.str "deal")))) (sRet (vA (fnN 4 F__law_begun) (vCons (vName 0) (vCons (vC (.str "dealt")) (vCons (v2 ixD (vName 1) (vC (.int 1))) (vCons (v2 ixD (v2 ixD (vName 1) (vC (.int 1))) (vC (.int 0))) (vNil))))))) (sNil))
  (sSeq (sIf (vB (v2 eqD (v2 ixD (vName 1) (vC (.int 0))) (vC (.str "ask")))) (sRet (vA (fnN 4 F__law_begun) (vCons (vName 0) (vCons (vC (.str "asking")) (vCons (v2 repD (vA mkTup (vCons (vC (.str "hold")) (vNil))) (vName 2)) (vCons (v2 ixD (vName 0) (vC (.str "own"))) (vNil))))))) (sNil))
  (sRet (vA (fnN 4 F__law_begun) (vCons (vName 0) (vCons (vC (.str "clearing")) (vCons (v2 repD (vA mkTup (vCons (vC (.str "free")) (vNil))) (vName 2)) (vCons (vC (.str "free")) (vNil))))))))))))
def F__law_chief_due : List D → Store → Res D := fnF 2 3 B__law_chief_due
theorem ok__law_chief_due {P : Program} {w : World} {K : PySem.W.Frag} {mg : Str → Option Value} {base : Heap} (M : Mod0 K w mg) (T : TopDef K mg "_law_chief_due" s__law_chief_due ["_law_state", "_law_line"]) (D__law_silent : DefOk P w K mg base "_law_silent" 1 ["_law_state"] F__law_silent) (D__law_begun : DefOk P w K mg base "_law_begun" 1 ["_law_state", "_law_now", "_law_told", "_law_own"] F__law_begun) (D__law_are_words : DefOk P w K mg base "_law_are_words" 1 ["_law_thing", "_law_many"] F__law_are_words) : DefOk P w K mg base "_law_chief_due" 2 ["_law_state", "_law_line"] F__law_chief_due :=
  def_ok (k := 1) (body := B__law_chief_due) T sc__law_chief_due rfl fun f cdv A outer s H E hr tk =>
  (ss_cons (st_par (i := 2) (j := 3) rfl sc__law_chief_due.nd rfl rfl (by decide) rfl rfl (a_cons (e_callB (x := "len") b_len rfl M.b_len (by decide +kernel) (a_cons (e_ix hr (e_name 0 rfl (.inl rfl)) e_str fun _ _ => rfl) a_nil)) (a_cons (e_callTy (x := "tuple") b_tuple rfl M.b_tuple (by decide +kernel) (a_cons (e_def (x := "_law_silent") (ps := ["_law_state"]) D__law_silent hr (by omega) tk rfl (a_cons (e_name 0 rfl (.inl rfl)) a_nil)) a_nil)) a_nil)) rfl)
  (ss_cons (st_if (PW.pt (bw_and (t_cmp (o_eq hr) (e_ix hr (e_name 1 rfl (.inl rfl)) e_int fun _ _ => rfl) e_str (nomark _)) (bw_and1 (b_not (t_val (e_def (x := "_law_are_words") (ps := ["_law_thing", "_law_many"]) D__law_are_words hr (by omega) tk rfl (a_cons (e_ix hr (e_name 1 rfl (.inl rfl)) e_int fun _ _ => rfl) (a_cons (e_name 2 rfl (.inl rfl)) a_nil)))))))) (ss_one (st_ret (e_tup (a_cons e_str (a_cons (e_ix hr (e_name 1 rfl (.inl rfl)) e_int fun _ _ => rfl) a_nil))))) ss_nil)
  (ss_cons (st_set 4 sc__law_chief_due.nd rfl (.inl rfl) (e_ix hr (e_ref (s_disp (xs := ["deal", "ask", "clear"]) (DsE.cons (e_frz (s_lst (a_cons e_str (a_cons e_str a_nil)))) (DsE.cons (e_frz (s_lst (a_cons e_str a_nil))) (DsE.cons (e_frz (s_lst (a_cons e_str (a_cons e_str a_nil)))) DsE.nil))) (by simp) (by decide) (by decide +kernel))) (e_ix hr (e_name 1 rfl (.inl rfl)) e_int fun _ _ => rfl) fun _ _ => rfl))
  (ss_cons (st_if (PW.pt (bw_or (t_cmp (o_notin hr) (e_ix hr (e_name 0 rfl (.inl rfl)) e_str fun _ _ => rfl) (e_name 4 rfl (.inl rfl)) rfl) (bw_or1 (t_cmp (o_ne hr) (e_name 3 rfl (.inl rfl)) (e_tup a_nil) (nomark _))))) (ss_one (st_ret (e_tup (a_cons e_str (a_cons (e_tup (a_cons (e_ix hr (e_name 0 rfl (.inl rfl)) e_str fun _ _ => rfl) (a_cons (e_name 3 rfl (.inl rfl)) a_nil))) a_nil))))) ss_nil)
  (ss_cons (st_if (t_cmp (o_eq hr) (e_ix hr (e_name 1 rfl (.inl rfl)) e_int fun _ _ => rfl) e_str (nomark _)) (ss_one (st_ret (e_def (x := "_law_begun") (ps := ["_law_state", "_law_now", "_law_told", "_law_own"]) D__law_begun hr (by omega) tk rfl (a_cons (e_name 0 rfl (.inl rfl)) (a_cons e_str (a_cons (e_ix hr (e_name 1 rfl (.inl rfl)) e_int fun _ _ => rfl) (a_cons (e_ix hr (e_ix hr (e_name 1 rfl (.inl rfl)) e_int fun _ _ => rfl) e_int fun _ _ => rfl) a_nil))))))) ss_nil)
  (ss_cons (st_if (t_cmp (o_eq hr) (e_ix hr (e_name 1 rfl (.inl rfl)) e_int fun _ _ => rfl) e_str (nomark _)) (ss_one (st_ret (e_def (x := "_law_begun") (ps := ["_law_state", "_law_now", "_law_told", "_law_own"]) D__law_begun hr (by omega) tk rfl (a_cons (e_name 0 rfl (.inl rfl)) (a_cons e_str (a_cons (e_bin o_rep (e_tup (a_cons e_str a_nil)) (e_name 2 rfl (.inl rfl))) (a_cons (e_ix hr (e_name 0 rfl (.inl rfl)) e_str fun _ _ => rfl) a_nil))))))) ss_nil)
  (ss_one (st_ret (e_def (x := "_law_begun") (ps := ["_law_state", "_law_now", "_law_told", "_law_own"]) D__law_begun hr (by omega) tk rfl (a_cons (e_name 0 rfl (.inl rfl)) (a_cons e_str (a_cons (e_bin o_rep (e_tup (a_cons e_str a_nil)) (e_name 2 rfl (.inl rfl))) (a_cons e_str a_nil)))))))))))))
/-! ### _law_chief_hears -/
abbrev s__law_chief_hears : Stmt := top 24
theorem sc__law_chief_hears : FnScope ["_law_state", "_law_letter", "_law_word", "_law_place", "_law_turn"] ["_law_state", "_law_letter"] (defScope s__law_chief_hears) := ⟨rfl, rfl, rfl, by decide +kernel, rfl, by decide +kernel, by decide +kernel⟩
def B__law_chief_hears : En → Store → ResS :=
  sSeq (sAsg (vName 1) (gPat (.t [.n 2, .n 3, .n 4])))
  (sSeq (sIf (vOr (vB (v2 neD (vName 4) (v2 ixD (vName 0) (vC (.str "turn"))))) (vB (v2 inD (vName 3) (v2 ixD (vName 0) (vC (.str "agreed")))))) (sRet (vC (.bl false))) (sNil))
  (sSeq (sAsg (vFrz (vA sortedD (vCons (v2 addD (v2 ixD (vName 0) (vC (.str "agreed"))) (vFrz (vA mkLst (vCons (vName 3) (vNil))))) (vNil)))) (gSubR (vName 0) (vC (.str "agreed"))))
  (sSeq (sIf (vAnd (vB (v2 eqD (vA (fnN 1 F__law_silent) (vCons (vName 0) (vNil))) (vFrz (vA mkLst (vNil))))) (vB (v2 inD (v2 ixD (vName 0) (vC (.str "now"))) (vFrz (vA mkLst (vCons (vC (.str "asking")) (vCons (vC (.str "clearing")) (vNil)))))))) (sSeq (sAsg (v2 ixD (vRef (dsD ["asking", "clearing"] (vCons (vC (.str "hold")) (vCons (vC (.str "free")) (vNil))))) (v2 ixD (vName 0) (vC (.str "now")))) (gSubR (vName 0) (vC (.str "own"))))
  (sAsg (v2 ixD (vRef (dsD ["asking", "clearing"] (vCons (vC (.str "held")) (vCons (vC (.str "clear")) (vNil))))) (v2 ixD (vName 0) (vC (.str "now")))) (gSubR (vName 0) (vC (.str "now"))))) (sNil))
  (sRet (vC (.bl true))))))
def F__law_chief_hears : List D → Store → Res D := fnF 2 3 B__law_chief_hears
theorem ok__law_chief_hears {P : Program} {w : World} {K : PySem.W.Frag} {mg : Str → Option Value} {base : Heap} (M : Mod0 K w mg) (T : TopDef K mg "_law_chief_hears" s__law_chief_hears ["_law_state", "_law_letter"]) (D__law_silent : DefOk P w K mg base "_law_silent" 1 ["_law_state"] F__law_silent) : DefOk P w K mg base "_law_chief_hears" 2 ["_law_state", "_law_letter"] F__law_chief_hears :=
  def_ok (k := 1) (body := B__law_chief_hears) T sc__law_chief_hears rfl fun f cdv A outer s H E hr tk =>
  (ss_cons (st_asg (e_name 1 rfl (.inl rfl)) (g_pat (pat_t rfl (pats_cons (pat_n 2 sc__law_chief_hears.nd rfl (.inl rfl)) (pats_cons (pat_n 3 sc__law_chief_hears.nd rfl (.inl rfl)) (pats_cons (pat_n 4 sc__law_chief_hears.nd rfl (.inl rfl)) pats_nil))))))
  (ss_cons (st_if (PW.pt (bw_or (t_cmp (o_ne hr) (e_name 4 rfl (.inl rfl)) (e_ix hr (e_name 0 rfl (.inl rfl)) e_str fun _ _ => rfl) (nomark _)) (bw_or1 (t_cmp (o_in hr) (e_name 3 rfl (.inl rfl)) (e_ix hr (e_name 0 rfl (.inl rfl)) e_str fun _ _ => rfl) rfl)))) (ss_one (st_ret e_bl)) ss_nil)
  (ss_cons (st_asg (e_frz (s_callB (x := "sorted") b_sorted rfl M.b_sorted (by decide +kernel) (a_cons (e_bin o_add (e_ix hr (e_name 0 rfl (.inl rfl)) e_str fun _ _ => rfl) (e_frz (s_lst (a_cons (e_name 3 rfl (.inl rfl)) a_nil)))) a_nil))) (g_subR hr (e_name 0 rfl (.inl rfl)) e_str))
  (ss_cons (st_if (PW.pt (bw_and (t_cmp (o_eq hr) (e_def (x := "_law_silent") (ps := ["_law_state"]) D__law_silent hr (by omega) tk rfl (a_cons (e_name 0 rfl (.inl rfl)) a_nil)) (e_frz (s_lst a_nil)) (nomark _)) (bw_and1 (t_cmp (o_in hr) (e_ix hr (e_name 0 rfl (.inl rfl)) e_str fun _ _ => rfl) (e_frz (s_lst (a_cons e_str (a_cons e_str a_nil)))) rfl)))) (ss_cons (st_asg (e_ix hr (e_ref (s_disp (xs := ["asking", "clearing"]) (DsE.cons e_str (DsE.cons e_str DsE.nil)) (by simp) (by decide) (by decide +kernel))) (e_ix hr (e_name 0 rfl (.inl rfl)) e_str fun _ _ => rfl) fun _ _ => rfl) (g_subR hr (e_name 0 rfl (.inl rfl)) e_str))
  (ss_one (st_asg (e_ix hr (e_ref (s_disp (xs := ["asking", "clearing"]) (DsE.cons e_str (DsE.cons e_str DsE.nil)) (by simp) (by decide) (by decide +kernel))) (e_ix hr (e_name 0 rfl (.inl rfl)) e_str fun _ _ => rfl) fun _ _ => rfl) (g_subR hr (e_name 0 rfl (.inl rfl)) e_str)))) ss_nil)
  (ss_one (st_ret e_bl))))))
/-! ### _law_letters_due -/
abbrev s__law_letters_due : Stmt := top 25
theorem sc__law_letters_due : FnScope ["_law_state", "_law_place"] ["_law_state"] (defScope s__law_letters_due) := ⟨rfl, rfl, rfl, by decide +kernel, rfl, by decide +kernel, by decide +kernel⟩
def B__law_letters_due : En → Store → ResS :=
  sRet (vA tupOfD (vCons (vFrz (vLc (v1 seqF (vA (fnN 1 F__law_silent) (vCons (vName 0) (vNil)))) (.n 1) [1] (ttYes) (vA mkTup (vCons (vC (.str "tell")) (vCons (vName 1) (vCons (v2 ixD (vName 0) (vC (.str "turn"))) (vCons (v2 ixD (v2 ixD (vName 0) (vC (.str "told"))) (vName 1)) (vNil)))))))) (vNil)))
def F__law_letters_due : List D → Store → Res D := fnF 1 1 B__law_letters_due
theorem ok__law_letters_due {P : Program} {w : World} {K : PySem.W.Frag} {mg : Str → Option Value} {base : Heap} (M : Mod0 K w mg) (T : TopDef K mg "_law_letters_due" s__law_letters_due ["_law_state"]) (D__law_silent : DefOk P w K mg base "_law_silent" 1 ["_law_state"] F__law_silent) : DefOk P w K mg base "_law_letters_due" 2 ["_law_state"] F__law_letters_due :=
  def_ok (k := 1) (body := B__law_letters_due) T sc__law_letters_due rfl fun f cdv A outer s H E hr tk =>
  (ss_one (st_ret (e_callTy (x := "tuple") b_tuple rfl M.b_tuple (by decide +kernel) (a_cons (e_frz (s_lc0 (own := [("_law_place", 1)]) (N0 := ["_law_state", "_law_place"]) (sc0 := defScope s__law_letters_due) rfl sc__law_letters_due.nd (i_seq (e_def (x := "_law_silent") (ps := ["_law_state"]) D__law_silent hr (by omega) tk rfl (a_cons (e_name 0 rfl (.inr (.inl rfl))) a_nil))) (by decide +kernel) rfl rfl (by decide) (fun _ _ _ _ _ => (pat_n 1 sc__law_letters_due.nd rfl (.inl rfl)))  (fun _ _ _ _ _ => by exact (e_tup (a_cons e_str (a_cons (e_name 1 rfl (.inl rfl)) (a_cons (e_ix hr (e_name 0 rfl (.inr (.inl rfl))) e_str fun _ _ => rfl) (a_cons (e_ix hr (e_ix hr (e_name 0 rfl (.inr (.inl rfl))) e_str fun _ _ => rfl) (e_name 1 rfl (.inl rfl)) fun _ _ => rfl) a_nil)))))))) a_nil))))
/-! ### Chief_silent -/
abbrev s_Chief_silent : Stmt := inClass (top 14) 5
theorem sc_Chief_silent : FnScope ["self", "place"] ["self"] (defScope s_Chief_silent) := ⟨rfl, rfl, rfl, by decide +kernel, rfl, by decide +kernel, by decide +kernel⟩
def B_Chief_silent : En → Store → ResS :=
  sRet (vA tupOfD (vCons (vFrz (vLc (v1 seqF (v1 (fldF ["Chief"] "places") (vName 0))) (.n 1) [1] (vB (v2 notinD (vName 1) (v1 (fldF ["Chief"] "have_agreed") (vName 0)))) (vName 1))) (vNil)))
def F_Chief_silent : List D → Store → Res D := fnF 1 1 B_Chief_silent
theorem ok_Chief_silent {P : Program} {w : World} {K : PySem.W.Frag} {mg : Str → Option Value} {base : Heap} (M : Mod0 K w mg) (T : TopMeth K mg "Chief" "silent" "Chief.silent" s_Chief_silent ["self"])  : MethOk P w K mg base 1 "silent" "Chief" ["self"] F_Chief_silent :=
  meth_ok (k := 0) (body := B_Chief_silent) T sc_Chief_silent rfl fun f cdv A outer s H E hr tk =>
  (ss_one (st_ret (e_callTy (x := "tuple") b_tuple rfl M.b_tuple (by decide +kernel) (a_cons (e_frz (s_lc1 (own := [("place", 1)]) (N0 := ["self", "place"]) (sc0 := defScope s_Chief_silent) rfl sc_Chief_silent.nd (i_seq (e_fld (f := "places") (tb := ["Chief"]) (e_name 0 rfl (.inr (.inl rfl))) M.f_places)) (by decide +kernel) rfl rfl (by decide) (fun _ _ _ _ _ => (pat_n 1 sc_Chief_silent.nd rfl (.inl rfl))) (fun _ _ _ _ _ => by exact (t_cmp (o_notin hr) (e_name 1 rfl (.inl rfl)) (e_fld (f := "have_agreed") (tb := ["Chief"]) (e_name 0 rfl (.inr (.inl rfl))) M.f_have_agreed) rfl)) (fun _ _ _ _ _ => by exact (e_name 1 rfl (.inl rfl))))) a_nil))))
/-! ### Chief_look_agreed -/
abbrev s_Chief_look_agreed : Stmt := inClass (top 14) 6
theorem sc_Chief_look_agreed : FnScope ["self", "phases"] ["self", "phases"] (defScope s_Chief_look_agreed) := ⟨rfl, rfl, rfl, by decide +kernel, rfl, by decide +kernel, by decide +kernel⟩
def B_Chief_look_agreed : En → Store → ResS :=
  sIf (vOr (vB (v2 notinT (v1 (fldF ["Chief"] "now") (vName 0)) (vName 1))) (vB (v2 neD (vMeth [("Chief", ["self"], F_Chief_silent)] "silent" (vName 0) vNil) (vA mkTup (vNil))))) (sRaise "NotAgreed" ["now", "missing"] (vCons (v1 (fldF ["Chief"] "now") (vName 0)) (vCons (vMeth [("Chief", ["self"], F_Chief_silent)] "silent" (vName 0) vNil) (vNil)))) (sNil)
def F_Chief_look_agreed : List D → Store → Res D := fnF 2 0 B_Chief_look_agreed
theorem ok_Chief_look_agreed {P : Program} {w : World} {K : PySem.W.Frag} {mg : Str → Option Value} {base : Heap} (M : Mod0 K w mg) (T : TopMeth K mg "Chief" "look_agreed" "Chief.look_agreed" s_Chief_look_agreed ["self", "phases"]) (D_Chief_silent : MethOk P w K mg base 1 "silent" "Chief" ["self"] F_Chief_silent) (X_NotAgreed : XMk P w K mg base 1 "NotAgreed" ["now", "missing"]) : MethOk P w K mg base 3 "look_agreed" "Chief" ["self", "phases"] F_Chief_look_agreed :=
  meth_ok (k := 2) (body := B_Chief_look_agreed) T sc_Chief_look_agreed rfl fun f cdv A outer s H E hr tk =>
  (ss_one (st_if (PW.pt (bw_or (t_cmp o_notinT (e_fld (f := "now") (tb := ["Chief"]) (e_name 0 rfl (.inl rfl)) M.f_now) (e_name 1 rfl (.inl rfl)) rfl) (bw_or1 (t_cmp (o_ne hr) (e_meth0 (m := "silent") (tb := [("Chief", ["self"], F_Chief_silent)]) (k := 2) ⟨D_Chief_silent.mono (by omega), trivial⟩ hr tk (e_name 0 rfl (.inl rfl))) (e_tup a_nil) (nomark _))))) (ss_one (st_raise X_NotAgreed hr (by omega) rfl tk rfl (a_cons (e_fld (f := "now") (tb := ["Chief"]) (e_name 0 rfl (.inl rfl)) M.f_now) (a_cons (e_meth0 (m := "silent") (tb := [("Chief", ["self"], F_Chief_silent)]) (k := 2) ⟨D_Chief_silent.mono (by omega), trivial⟩ hr tk (e_name 0 rfl (.inl rfl))) a_nil)))) ss_nil))
/-! ### Chief_begin -/
abbrev s_Chief_begin : Stmt := inClass (top 14) 7
theorem sc_Chief_begin : FnScope ["self", "phase", "told"] ["self", "phase", "told"] (defScope s_Chief_begin) := ⟨rfl, rfl, rfl, by decide +kernel, rfl, by decide +kernel, by decide +kernel⟩
def B_Chief_begin : En → Store → ResS :=
  sSeq (sFldA ["Chief"] "at_turn" 1 (vName 0))
  (sSeq (sAsg (vA mkTup (vCons (vName 1) (vCons (vName 2) (vNil)))) (gTp 2 (gsC (gFld ["Chief"] "now" (vName 0)) (gsC (gFld ["Chief"] "told" (vName 0)) (gsN)))))
  (sAsg (vRef (dnew false)) (gFld ["Chief"] "have_agreed" (vName 0))))
def F_Chief_begin : List D → Store → Res D := fnF 3 0 B_Chief_begin
theorem ok_Chief_begin {P : Program} {w : World} {K : PySem.W.Frag} {mg : Str → Option Value} {base : Heap} (M : Mod0 K w mg) (T : TopMeth K mg "Chief" "begin" "Chief.begin" s_Chief_begin ["self", "phase", "told"])  : MethOk P w K mg base 1 "begin" "Chief" ["self", "phase", "told"] F_Chief_begin :=
  meth_ok (k := 0) (body := B_Chief_begin) T sc_Chief_begin rfl fun f cdv A outer s H E hr tk =>
  (ss_cons (st_fldaug (f := "at_turn") (tb := ["Chief"]) (e_name 0 rfl (.inl rfl)) M.f_at_turn)
  (ss_cons (st_asg (e_tup (a_cons (e_name 1 rfl (.inl rfl)) (a_cons (e_name 2 rfl (.inl rfl)) a_nil))) (g_tup 2 rfl (gs_cons (g_fld (f := "now") (tb := ["Chief"]) (e_name 0 rfl (.inl rfl)) M.f_now) (gs_cons (g_fld (f := "told") (tb := ["Chief"]) (e_name 0 rfl (.inl rfl)) M.f_told) gs_nil))))
  (ss_one (st_fld (f := "have_agreed") (tb := ["Chief"]) (by exact (e_ref s_dnewK)) (e_name 0 rfl (.inl rfl)) M.f_have_agreed))))
/-! ### Chief_deal -/
abbrev s_Chief_deal : Stmt := inClass (top 14) 8
theorem sc_Chief_deal : FnScope ["self", "words"] ["self", "words"] (defScope s_Chief_deal) := ⟨rfl, rfl, rfl, by decide +kernel, rfl, by decide +kernel, by decide +kernel⟩
def B_Chief_deal : En → Store → ResS :=
  sSeq (sIf (vNot (vB (vA (fnN 2 F_are_words) (vCons (vName 1) (vCons (vA lenD (vCons (v1 (fldF ["Chief"] "told") (vName 0)) (vNil))) (vNil)))))) (sRaise "NoWords" ["told"] (vCons (vName 1) (vNil))) (sNil))
  (sSeq (sExpr (vMeth [("Chief", ["self", "phases"], F_Chief_look_agreed)] "look_agreed" (vName 0) (vCons (vA mkTup (vCons (vC (.str "clear")) (vCons (vC (.str "held")) (vNil)))) (vNil))))
  (sSeq (sExpr (vMeth [("Chief", ["self", "phase", "told"], F_Chief_begin)] "begin" (vName 0) (vCons (vC (.str "dealt")) (vCons (vName 1) (vNil)))))
  (sAsg (v2 ixD (vName 1) (vC (.int 0))) (gFld ["Chief"] "own" (vName 0)))))
def F_Chief_deal : List D → Store → Res D := fnF 2 0 B_Chief_deal
theorem ok_Chief_deal {P : Program} {w : World} {K : PySem.W.Frag} {mg : Str → Option Value} {base : Heap} (M : Mod0 K w mg) (T : TopMeth K mg "Chief" "deal" "Chief.deal" s_Chief_deal ["self", "words"]) (D_are_words : DefOk P w K mg base "are_words" 2 ["thing", "many"] F_are_words) (D_Chief_look_agreed : MethOk P w K mg base 3 "look_agreed" "Chief" ["self", "phases"] F_Chief_look_agreed) (D_Chief_begin : MethOk P w K mg base 1 "begin" "Chief" ["self", "phase", "told"] F_Chief_begin) (X_NoWords : XMk P w K mg base 1 "NoWords" ["told"]) : MethOk P w K mg base 4 "deal" "Chief" ["self", "words"] F_Chief_deal :=
  meth_ok (k := 3) (body := B_Chief_deal) T sc_Chief_deal rfl fun f cdv A outer s H E hr tk =>
  (ss_cons (st_if (b_not (t_val (e_def (x := "are_words") (ps := ["thing", "many"]) D_are_words hr (by omega) tk rfl (a_cons (e_name 1 rfl (.inl rfl)) (a_cons (e_callB (x := "len") b_len rfl M.b_len (by decide +kernel) (a_cons (e_fld (f := "told") (tb := ["Chief"]) (e_name 0 rfl (.inl rfl)) M.f_told) a_nil)) a_nil))))) (ss_one (st_raise X_NoWords hr (by omega) rfl tk rfl (a_cons (e_name 1 rfl (.inl rfl)) a_nil))) ss_nil)
  (ss_cons (st_expr (e_meth (m := "look_agreed") (tb := [("Chief", ["self", "phases"], F_Chief_look_agreed)]) (k := 3) ⟨D_Chief_look_agreed.mono (by omega), trivial⟩ hr tk (e_name 0 rfl (.inl rfl)) (a_cons (e_tup (a_cons (M.c_CLEAR rfl) (a_cons (M.c_HELD rfl) a_nil))) a_nil)))
  (ss_cons (st_expr (e_meth (m := "begin") (tb := [("Chief", ["self", "phase", "told"], F_Chief_begin)]) (k := 3) ⟨D_Chief_begin.mono (by omega), trivial⟩ hr tk (e_name 0 rfl (.inl rfl)) (a_cons (M.c_DEALT rfl) (a_cons (e_name 1 rfl (.inl rfl)) a_nil))))
  (ss_one (st_fld (f := "own") (tb := ["Chief"]) (by exact (e_ix hr (e_name 1 rfl (.inl rfl)) e_int fun _ _ => rfl)) (e_name 0 rfl (.inl rfl)) M.f_own)))))
/-! ### Chief_clear -/
abbrev s_Chief_clear : Stmt := inClass (top 14) 10
theorem sc_Chief_clear : FnScope ["self"] ["self"] (defScope s_Chief_clear) := ⟨rfl, rfl, rfl, by decide +kernel, rfl, by decide +kernel, by decide +kernel⟩
def B_Chief_clear : En → Store → ResS :=
  sSeq (sExpr (vMeth [("Chief", ["self", "phases"], F_Chief_look_agreed)] "look_agreed" (vName 0) (vCons (vA mkTup (vCons (vC (.str "dealt")) (vCons (vC (.str "held")) (vNil)))) (vNil))))
  (sSeq (sExpr (vMeth [("Chief", ["self", "phase", "told"], F_Chief_begin)] "begin" (vName 0) (vCons (vC (.str "clearing")) (vCons (v2 repD (vA mkTup (vCons (vC (.str "free")) (vNil))) (vA lenD (vCons (v1 (fldF ["Chief"] "told") (vName 0)) (vNil)))) (vNil)))))
  (sAsg (vC (.str "free")) (gFld ["Chief"] "own" (vName 0))))
def F_Chief_clear : List D → Store → Res D := fnF 1 0 B_Chief_clear
theorem ok_Chief_clear {P : Program} {w : World} {K : PySem.W.Frag} {mg : Str → Option Value} {base : Heap} (M : Mod0 K w mg) (T : TopMeth K mg "Chief" "clear" "Chief.clear" s_Chief_clear ["self"]) (D_Chief_look_agreed : MethOk P w K mg base 3 "look_agreed" "Chief" ["self", "phases"] F_Chief_look_agreed) (D_Chief_begin : MethOk P w K mg base 1 "begin" "Chief" ["self", "phase", "told"] F_Chief_begin) : MethOk P w K mg base 4 "clear" "Chief" ["self"] F_Chief_clear :=
  meth_ok (k := 3) (body := B_Chief_clear) T sc_Chief_clear rfl fun f cdv A outer s H E hr tk =>
  (ss_cons (st_expr (e_meth (m := "look_agreed") (tb := [("Chief", ["self", "phases"], F_Chief_look_agreed)]) (k := 3) ⟨D_Chief_look_agreed.mono (by omega), trivial⟩ hr tk (e_name 0 rfl (.inl rfl)) (a_cons (e_tup (a_cons (M.c_DEALT rfl) (a_cons (M.c_HELD rfl) a_nil))) a_nil)))
  (ss_cons (st_expr (e_meth (m := "begin") (tb := [("Chief", ["self", "phase", "told"], F_Chief_begin)]) (k := 3) ⟨D_Chief_begin.mono (by omega), trivial⟩ hr tk (e_name 0 rfl (.inl rfl)) (a_cons (M.c_CLEARING rfl) (a_cons (e_bin o_rep (e_tup (a_cons e_str a_nil)) (e_callB (x := "len") b_len rfl M.b_len (by decide +kernel) (a_cons (e_fld (f := "told") (tb := ["Chief"]) (e_name 0 rfl (.inl rfl)) M.f_told) a_nil))) a_nil))))
  (ss_one (st_fld (f := "own") (tb := ["Chief"]) (by exact e_str) (e_name 0 rfl (.inl rfl)) M.f_own))))
/-! ### Chief_ask -/
abbrev s_Chief_ask : Stmt := inClass (top 14) 9
theorem sc_Chief_ask : FnScope ["self"] ["self"] (defScope s_Chief_ask) := ⟨rfl, rfl, rfl, by decide +kernel, rfl, by decide +kernel, by decide +kernel⟩
def B_Chief_ask : En → Store → ResS :=
  sSeq (sExpr (vMeth [("Chief", ["self", "phases"], F_Chief_look_agreed)] "look_agreed" (vName 0) (vCons (vA mkTup (vCons (vC (.str "dealt")) (vNil))) (vNil))))
  (sExpr (vMeth [("Chief", ["self", "phase", "told"], F_Chief_begin)] "begin" (vName 0) (vCons (vC (.str "asking")) (vCons (v2 repD (vA mkTup (vCons (vC (.str "hold")) (vNil))) (vA lenD (vCons (v1 (fldF ["Chief"] "told") (vName 0)) (vNil)))) (vNil)))))
def F_Chief_ask : List D → Store → Res D := fnF 1 0 B_Chief_ask
theorem ok_Chief_ask {P : Program} {w : World} {K : PySem.W.Frag} {mg : Str → Option Value} {base : Heap} (M : Mod0 K w mg) (T : TopMeth K mg "Chief" "ask" "Chief.ask" s_Chief_ask ["self"]) (D_Chief_look_agreed : MethOk P w K mg base 3 "look_agreed" "Chief" ["self", "phases"] F_Chief_look_agreed) (D_Chief_begin : MethOk P w K mg base 1 "begin" "Chief" ["self", "phase", "told"] F_Chief_begin) : MethOk P w K mg base 4 "ask" "Chief" ["self"] F_Chief_ask :=
  meth_ok (k := 3) (body := B_Chief_ask) T sc_Chief_ask rfl fun f cdv A outer s H E hr tk =>
  (ss_cons (st_expr (e_meth (m := "look_agreed") (tb := [("Chief", ["self", "phases"], F_Chief_look_agreed)]) (k := 3) ⟨D_Chief_look_agreed.mono (by omega), trivial⟩ hr tk (e_name 0 rfl (.inl rfl)) (a_cons (e_tup (a_cons (M.c_DEALT rfl) a_nil)) a_nil)))
  (ss_one (st_expr (e_meth (m := "begin") (tb := [("Chief", ["self", "phase", "told"], F_Chief_begin)]) (k := 3) ⟨D_Chief_begin.mono (by omega), trivial⟩ hr tk (e_name 0 rfl (.inl rfl)) (a_cons (M.c_ASKING rfl) (a_cons (e_bin o_rep (e_tup (a_cons e_str a_nil)) (e_callB (x := "len") b_len rfl M.b_len (by decide +kernel) (a_cons (e_fld (f := "told") (tb := ["Chief"]) (e_name 0 rfl (.inl rfl)) M.f_told) a_nil))) a_nil))))))
/-! ### _law_chief_does -/
abbrev s__law_chief_does : Stmt := top 26
theorem sc__law_chief_does : FnScope ["_law_who", "_law_line", "_law_found", "e"] ["_law_who", "_law_line"] (defScope s__law_chief_does) := ⟨rfl, rfl, rfl, by decide +kernel, rfl, by decide +kernel, by decide +kernel⟩
def B__law_chief_does : En → Store → ResS :=
  sSeq (sTry ["NoWords", "NotAgreed"] (sIf (vB (v2 eqD (v2 ixD (vName 1) (vC (.int 0))) (vC (.str "deal")))) (sSet 2 (vMeth [("Chief", ["self", "words"], F_Chief_deal)] "deal" (vName 0) (vCons (v2 ixD (vName 1) (vC (.int 1))) (vNil)))) (sIf (vB (v2 eqD (v2 ixD (vName 1) (vC (.int 0))) (vC (.str "ask")))) (sSet 2 (vMeth [("Chief", ["self"], F_Chief_ask)] "ask" (vName 0) vNil)) (sSet 2 (vMeth [("Chief", ["self"], F_Chief_clear)] "clear" (vName 0) vNil)))) [⟨["NoWords"], some 3, sRet (vA mkTup (vCons (vC (.str "NoWords")) (vCons (v1 (xfF "NoWords" "told") (vName 3)) (vNil))))⟩, ⟨["NotAgreed"], some 3, sRet (vA mkTup (vCons (vC (.str "NotAgreed")) (vCons (vA mkTup (vCons (v1 (xfF "NotAgreed" "now") (vName 3)) (vCons (v1 (xfF "NotAgreed" "missing") (vName 3)) (vNil)))) (vNil))))⟩])
  (sRet (vA mkTup (vCons (vC (.str "none")) (vCons (vName 2) (vNil)))))
def F__law_chief_does : List D → Store → Res D := fnF 2 2 B__law_chief_does
theorem ok__law_chief_does {P : Program} {w : World} {K : PySem.W.Frag} {mg : Str → Option Value} {base : Heap} (M : Mod0 K w mg) (T : TopDef K mg "_law_chief_does" s__law_chief_does ["_law_who", "_law_line"]) (D_Chief_deal : MethOk P w K mg base 4 "deal" "Chief" ["self", "words"] F_Chief_deal) (D_Chief_ask : MethOk P w K mg base 4 "ask" "Chief" ["self"] F_Chief_ask) (D_Chief_clear : MethOk P w K mg base 4 "clear" "Chief" ["self"] F_Chief_clear) : DefOk P w K mg base "_law_chief_does" 5 ["_law_who", "_law_line"] F__law_chief_does :=
  def_ok (k := 4) (body := B__law_chief_does) T sc__law_chief_does rfl fun f cdv A outer s H E hr tk =>
  (ss_cons (st_try (tb := ["NoWords", "NotAgreed"]) rfl rfl rfl sc__law_chief_does.nd tk (fun _ _ _ tk pa => (ss_one (st_if (t_cmp (o_eq hr) (e_ix hr (e_name 1 rfl (.inl rfl)) e_int fun _ _ => rfl) e_str (nomark _)) (ss_one (st_set 2 sc__law_chief_does.nd rfl (.inl rfl) (e_meth (m := "deal") (tb := [("Chief", ["self", "words"], F_Chief_deal)]) (k := 4) ⟨D_Chief_deal.mono (by omega), trivial⟩ hr tk (e_name 0 rfl (.inl rfl)) (a_cons (e_ix hr (e_name 1 rfl (.inl rfl)) e_int fun _ _ => rfl) a_nil)))) (ss_one (st_if (t_cmp (o_eq hr) (e_ix hr (e_name 1 rfl (.inl rfl)) e_int fun _ _ => rfl) e_str (nomark _)) (ss_one (st_set 2 sc__law_chief_does.nd rfl (.inl rfl) (e_meth0 (m := "ask") (tb := [("Chief", ["self"], F_Chief_ask)]) (k := 4) ⟨D_Chief_ask.mono (by omega), trivial⟩ hr tk (e_name 0 rfl (.inl rfl))))) (ss_one (st_set 2 sc__law_chief_does.nd rfl (.inl rfl) (e_meth0 (m := "clear") (tb := [("Chief", ["self"], F_Chief_clear)]) (k := 4) ⟨D_Chief_clear.mono (by omega), trivial⟩ hr tk (e_name 0 rfl (.inl rfl)))))))))) (.oneAs (i := 3) rfl (by decide) rfl rfl (fun _ _ => (ss_one (st_ret (e_tup (a_cons e_str (a_cons (e_xf (C := "NoWords") (f := "told") (e_name 3 rfl (.inl rfl)) M.xf_NoWords_told) a_nil)))))) (.oneAs (i := 3) rfl (by decide) rfl rfl (fun _ _ => (ss_one (st_ret (e_tup (a_cons e_str (a_cons (e_tup (a_cons (e_xf (C := "NotAgreed") (f := "now") (e_name 3 rfl (.inl rfl)) M.xf_NotAgreed_now) (a_cons (e_xf (C := "NotAgreed") (f := "missing") (e_name 3 rfl (.inl rfl)) M.xf_NotAgreed_missing) a_nil))) a_nil)))))) .nil)) (ct_one M.xt_NoWords (ct_one M.xt_NotAgreed ct_nil)))
  (ss_one (st_ret (e_tup (a_cons e_str (a_cons (e_name 2 rfl (.inl rfl)) a_nil))))))
/-! ### Chief_letters -/
abbrev s_Chief_letters : Stmt := inClass (top 14) 11
theorem sc_Chief_letters : FnScope ["self", "place"] ["self"] (defScope s_Chief_letters) := ⟨rfl, rfl, rfl, by decide +kernel, rfl, by decide +kernel, by decide +kernel⟩
def B_Chief_letters : En → Store → ResS :=
  sRet (vA tupOfD (vCons (vFrz (vLc (v1 seqF (vMeth [("Chief", ["self"], F_Chief_silent)] "silent" (vName 0) vNil)) (.n 1) [1] (ttYes) (vA mkTup (vCons (vC (.str "tell")) (vCons (vName 1) (vCons (v1 (fldF ["Chief"] "at_turn") (vName 0)) (vCons (v2 ixD (v1 (fldF ["Chief"] "told") (vName 0)) (vName 1)) (vNil)))))))) (vNil)))
def F_Chief_letters : List D → Store → Res D := fnF 1 1 B_Chief_letters
theorem ok_Chief_letters {P : Program} {w : World} {K : PySem.W.Frag} {mg : Str → Option Value} {base : Heap} (M : Mod0 K w mg) (T : TopMeth K mg "Chief" "letters" "Chief.letters" s_Chief_letters ["self"]) (D_Chief_silent : MethOk P w K mg base 1 "silent" "Chief" ["self"] F_Chief_silent) : MethOk P w K mg base 2 "letters" "Chief" ["self"] F_Chief_letters :=
  meth_ok (k := 1) (body := B_Chief_letters) T sc_Chief_letters rfl fun f cdv A outer s H E hr tk =>
  (ss_one (st_ret (e_callTy (x := "tuple") b_tuple rfl M.b_tuple (by decide +kernel) (a_cons (e_frz (s_lc0 (own := [("place", 1)]) (N0 := ["self", "place"]) (sc0 := defScope s_Chief_letters) rfl sc_Chief_letters.nd (i_seq (e_meth0 (m := "silent") (tb := [("Chief", ["self"], F_Chief_silent)]) (k := 1) ⟨D_Chief_silent.mono (by omega), trivial⟩ hr tk (e_name 0 rfl (.inr (.inl rfl))))) (by decide +kernel) rfl rfl (by decide) (fun _ _ _ _ _ => (pat_n 1 sc_Chief_letters.nd rfl (.inl rfl)))  (fun _ _ _ _ _ => by exact (e_tup (a_cons e_str (a_cons (e_name 1 rfl (.inl rfl)) (a_cons (e_fld (f := "at_turn") (tb := ["Chief"]) (e_name 0 rfl (.inr (.inl rfl))) M.f_at_turn) (a_cons (e_ix hr (e_fld (f := "told") (tb := ["Chief"]) (e_name 0 rfl (.inr (.inl rfl))) M.f_told) (e_name 1 rfl (.inl rfl)) fun _ _ => rfl) a_nil)))))))) a_nil))))
/-! ### Chief_phase -/
abbrev s_Chief_phase : Stmt := inClass (top 14) 2
theorem sc_Chief_phase : FnScope ["self"] ["self"] (defScope s_Chief_phase) := ⟨rfl, rfl, rfl, by decide +kernel, rfl, by decide +kernel, by decide +kernel⟩
def B_Chief_phase : En → Store → ResS :=
  sRet (v1 (fldF ["Chief"] "now") (vName 0))
def F_Chief_phase : List D → Store → Res D := fnF 1 0 B_Chief_phase
theorem ok_Chief_phase {P : Program} {w : World} {K : PySem.W.Frag} {mg : Str → Option Value} {base : Heap} (M : Mod0 K w mg) (T : TopMeth K mg "Chief" "phase" "Chief.phase" s_Chief_phase ["self"])  : MethOk P w K mg base 1 "phase" "Chief" ["self"] F_Chief_phase :=
  meth_ok (k := 0) (body := B_Chief_phase) T sc_Chief_phase rfl fun f cdv A outer s H E hr tk =>
  (ss_one (st_ret (e_fld (f := "now") (tb := ["Chief"]) (e_name 0 rfl (.inl rfl)) M.f_now)))
/-! ### Chief_agreed -/
abbrev s_Chief_agreed : Stmt := inClass (top 14) 4
theorem sc_Chief_agreed : FnScope ["self", "place"] ["self"] (defScope s_Chief_agreed) := ⟨rfl, rfl, rfl, by decide +kernel, rfl, by decide +kernel, by decide +kernel⟩
def B_Chief_agreed : En → Store → ResS :=
  sRet (vA tupOfD (vCons (vFrz (vLc (v1 seqF (v1 (fldF ["Chief"] "places") (vName 0))) (.n 1) [1] (vB (v2 inD (vName 1) (v1 (fldF ["Chief"] "have_agreed") (vName 0)))) (vName 1))) (vNil)))
def F_Chief_agreed : List D → Store → Res D := fnF 1 1 B_Chief_agreed
theorem ok_Chief_agreed {P : Program} {w : World} {K : PySem.W.Frag} {mg : Str → Option Value} {base : Heap} (M : Mod0 K w mg) (T : TopMeth K mg "Chief" "agreed" "Chief.agreed" s_Chief_agreed ["self"])  : MethOk P w K mg base 1 "agreed" "Chief" ["self"] F_Chief_agreed :=
  meth_ok (k := 0) (body := B_Chief_agreed) T sc_Chief_agreed rfl fun f cdv A outer s H E hr tk =>
  (ss_one (st_ret (e_callTy (x := "tuple") b_tuple rfl M.b_tuple (by decide +kernel) (a_cons (e_frz (s_lc1 (own := [("place", 1)]) (N0 := ["self", "place"]) (sc0 := defScope s_Chief_agreed) rfl sc_Chief_agreed.nd (i_seq (e_fld (f := "places") (tb := ["Chief"]) (e_name 0 rfl (.inr (.inl rfl))) M.f_places)) (by decide +kernel) rfl rfl (by decide) (fun _ _ _ _ _ => (pat_n 1 sc_Chief_agreed.nd rfl (.inl rfl))) (fun _ _ _ _ _ => by exact (t_cmp (o_in hr) (e_name 1 rfl (.inl rfl)) (e_fld (f := "have_agreed") (tb := ["Chief"]) (e_name 0 rfl (.inr (.inl rfl))) M.f_have_agreed) rfl)) (fun _ _ _ _ _ => by exact (e_name 1 rfl (.inl rfl))))) a_nil))))
/-! ### Chief_word -/
abbrev s_Chief_word : Stmt := inClass (top 14) 3
theorem sc_Chief_word : FnScope ["self"] ["self"] (defScope s_Chief_word) := ⟨rfl, rfl, rfl, by decide +kernel, rfl, by decide +kernel, by decide +kernel⟩
def B_Chief_word : En → Store → ResS :=
  sRet (v1 (fldF ["Chief"] "own") (vName 0))
def F_Chief_word : List D → Store → Res D := fnF 1 0 B_Chief_word
theorem ok_Chief_word {P : Program} {w : World} {K : PySem.W.Frag} {mg : Str → Option Value} {base : Heap} (M : Mod0 K w mg) (T : TopMeth K mg "Chief" "word" "Chief.word" s_Chief_word ["self"])  : MethOk P w K mg base 1 "word" "Chief" ["self"] F_Chief_word :=
  meth_ok (k := 0) (body := B_Chief_word) T sc_Chief_word rfl fun f cdv A outer s H E hr tk =>
  (ss_one (st_ret (e_fld (f := "own") (tb := ["Chief"]) (e_name 0 rfl (.inl rfl)) M.f_own)))
/-! ### Chief_turn -/
abbrev s_Chief_turn : Stmt := inClass (top 14) 1
theorem sc_Chief_turn : FnScope ["self"] ["self"] (defScope s_Chief_turn) := ⟨rfl, rfl, rfl, by decide +kernel, rfl, by decide +kernel, by decide +kernel⟩
def B_Chief_turn : En → Store → ResS :=
  sRet (v1 (fldF ["Chief"] "at_turn") (vName 0))
def F_Chief_turn : List D → Store → Res D := fnF 1 0 B_Chief_turn
theorem ok_Chief_turn {P : Program} {w : World} {K : PySem.W.Frag} {mg : Str → Option Value} {base : Heap} (M : Mod0 K w mg) (T : TopMeth K mg "Chief" "turn" "Chief.turn" s_Chief_turn ["self"])  : MethOk P w K mg base 1 "turn" "Chief" ["self"] F_Chief_turn :=
  meth_ok (k := 0) (body := B_Chief_turn) T sc_Chief_turn rfl fun f cdv A outer s H E hr tk =>
  (ss_one (st_ret (e_fld (f := "at_turn") (tb := ["Chief"]) (e_name 0 rfl (.inl rfl)) M.f_at_turn)))
/-! ### _law_chief_stands -/
abbrev s__law_chief_stands : Stmt := top 27
theorem sc__law_chief_stands : FnScope ["_law_chief", "_law_state", "_law_told", "_law_due"] ["_law_chief", "_law_state"] (defScope s__law_chief_stands) := ⟨rfl, rfl, rfl, by decide +kernel, rfl, by decide +kernel, by decide +kernel⟩
def B__law_chief_stands : En → Store → ResS :=
  sSeq (sSet 2 (vA mkTup (vCons (vMeth [("Chief", ["self"], F_Chief_turn)] "turn" (vName 0) vNil) (vCons (vMeth [("Chief", ["self"], F_Chief_phase)] "phase" (vName 0) vNil) (vCons (vMeth [("Chief", ["self"], F_Chief_word)] "word" (vName 0) vNil) (vCons (vMeth [("Chief", ["self"], F_Chief_agreed)] "agreed" (vName 0) vNil) (vCons (vMeth [("Chief", ["self"], F_Chief_letters)] "letters" (vName 0) vNil) (vNil))))))))
  (sSeq (sSet 3 (vA mkTup (vCons (v2 ixD (vName 1) (vC (.str "turn"))) (vCons (v2 ixD (vName 1) (vC (.str "now"))) (vCons (v2 ixD (vName 1) (vC (.str "own"))) (vCons (vA tupOfD (vCons (v2 ixD (vName 1) (vC (.str "agreed"))) (vNil))) (vCons (vA (fnN 1 F__law_letters_due) (vCons (vName 1) (vNil))) (vNil))))))))
  (sRet (v2 eqD (vA reprD (vCons (vName 2) (vNil))) (vA reprD (vCons (vName 3) (vNil))))))
def F__law_chief_stands : List D → Store → Res D := fnF 2 2 B__law_chief_stands
theorem ok__law_chief_stands {P : Program} {w : World} {K : PySem.W.Frag} {mg : Str → Option Value} {base : Heap} (M : Mod0 K w mg) (T : TopDef K mg "_law_chief_stands" s__law_chief_stands ["_law_chief", "_law_state"]) (D_Chief_turn : MethOk P w K mg base 1 "turn" "Chief" ["self"] F_Chief_turn) (D_Chief_phase : MethOk P w K mg base 1 "phase" "Chief" ["self"] F_Chief_phase) (D_Chief_word : MethOk P w K mg base 1 "word" "Chief" ["self"] F_Chief_word) (D_Chief_agreed : MethOk P w K mg base 1 "agreed" "Chief" ["self"] F_Chief_agreed) (D_Chief_letters : MethOk P w K mg base 2 "letters" "Chief" ["self"] F_Chief_letters) (D__law_letters_due : DefOk P w K mg base "_law_letters_due" 2 ["_law_state"] F__law_letters_due) : DefOk P w K mg base "_law_chief_stands" 3 ["_law_chief", "_law_state"] F__law_chief_stands :=
  def_ok (k := 2) (body := B__law_chief_stands) T sc__law_chief_stands rfl fun f cdv A outer s H E hr tk =>
  (ss_cons (st_set 2 sc__law_chief_stands.nd rfl (.inl rfl) (e_tup (a_cons (e_meth0 (m := "turn") (tb := [("Chief", ["self"], F_Chief_turn)]) (k := 2) ⟨D_Chief_turn.mono (by omega), trivial⟩ hr tk (e_name 0 rfl (.inl rfl))) (a_cons (e_meth0 (m := "phase") (tb := [("Chief", ["self"], F_Chief_phase)]) (k := 2) ⟨D_Chief_phase.mono (by omega), trivial⟩ hr tk (e_name 0 rfl (.inl rfl))) (a_cons (e_meth0 (m := "word") (tb := [("Chief", ["self"], F_Chief_word)]) (k := 2) ⟨D_Chief_word.mono (by omega), trivial⟩ hr tk (e_name 0 rfl (.inl rfl))) (a_cons (e_meth0 (m := "agreed") (tb := [("Chief", ["self"], F_Chief_agreed)]) (k := 2) ⟨D_Chief_agreed.mono (by omega), trivial⟩ hr tk (e_name 0 rfl (.inl rfl))) (a_cons (e_meth0 (m := "letters") (tb := [("Chief", ["self"], F_Chief_letters)]) (k := 2) ⟨D_Chief_letters.mono (by omega), trivial⟩ hr tk (e_name 0 rfl (.inl rfl))) a_nil)))))))
  (ss_cons (st_set 3 sc__law_chief_stands.nd rfl (.inl rfl) (e_tup (a_cons (e_ix hr (e_name 1 rfl (.inl rfl)) e_str fun _ _ => rfl) (a_cons (e_ix hr (e_name 1 rfl (.inl rfl)) e_str fun _ _ => rfl) (a_cons (e_ix hr (e_name 1 rfl (.inl rfl)) e_str fun _ _ => rfl) (a_cons (e_callTy (x := "tuple") b_tuple rfl M.b_tuple (by decide +kernel) (a_cons (e_ix hr (e_name 1 rfl (.inl rfl)) e_str fun _ _ => rfl) a_nil)) (a_cons (e_def (x := "_law_letters_due") (ps := ["_law_state"]) D__law_letters_due hr (by omega) tk rfl (a_cons (e_name 1 rfl (.inl rfl)) a_nil)) a_nil)))))))
  (ss_one (st_ret (e_cmp (o_eq hr) (e_callB (x := "repr") (b_repr hr) rfl M.b_repr (by decide +kernel) (a_cons (e_name 2 rfl (.inl rfl)) a_nil)) (e_callB (x := "repr") (b_repr hr) rfl M.b_repr (by decide +kernel) (a_cons (e_name 3 rfl (.inl rfl)) a_nil)) (nomark _))))))
/-! ### _law_deed_of -/
abbrev s__law_deed_of : Stmt := top 28
theorem sc__law_deed_of : FnScope ["_law_urn_here", "_law_many", "_law_way"] ["_law_urn_here", "_law_many"] (defScope s__law_deed_of) := ⟨rfl, rfl, rfl, by decide +kernel, rfl, by decide +kernel, by decide +kernel⟩
def B__law_deed_of : En → Store → ResS :=
  sSeq (sSet 2 (vA (fnN 2 F__law_draw) (vCons (vName 0) (vCons (vC (.int 4)) (vNil)))))
  (sSeq (sIf (vB (v2 ltD (vName 2) (vC (.int 2)))) (sRet (vA mkTup (vCons (vC (.str "deal")) (vCons (vA (fnN 2 F__law_words) (vCons (vName 0) (vCons (vName 1) (vNil)))) (vNil))))) (sNil))
  (sRet (v2 ixD (vFrz (vA mkLst (vCons (vA mkTup (vCons (vC (.str "ask")) (vNil))) (vCons (vA mkTup (vCons (vC (.str "clear")) (vNil))) (vNil))))) (v2 subD (vName 2) (vC (.int 2))))))
def F__law_deed_of : List D → Store → Res D := fnF 2 1 B__law_deed_of
theorem ok__law_deed_of {P : Program} {w : World} {K : PySem.W.Frag} {mg : Str → Option Value} {base : Heap} (M : Mod0 K w mg) (T : TopDef K mg "_law_deed_of" s__law_deed_of ["_law_urn_here", "_law_many"]) (D__law_draw : DefOk P w K mg base "_law_draw" 1 ["_law_urn_here", "_law_wide"] F__law_draw) (D__law_words : DefOk P w K mg base "_law_words" 2 ["_law_urn_here", "_law_many"] F__law_words) : DefOk P w K mg base "_law_deed_of" 3 ["_law_urn_here", "_law_many"] F__law_deed_of :=
  def_ok (k := 2) (body := B__law_deed_of) T sc__law_deed_of rfl fun f cdv A outer s H E hr tk =>
  (ss_cons (st_set 2 sc__law_deed_of.nd rfl (.inl rfl) (e_def (x := "_law_draw") (ps := ["_law_urn_here", "_law_wide"]) D__law_draw hr (by omega) tk rfl (a_cons (e_name 0 rfl (.inl rfl)) (a_cons e_int a_nil))))
  (ss_cons (st_if (t_cmp o_lt (e_name 2 rfl (.inl rfl)) e_int (nomark _)) (ss_one (st_ret (e_tup (a_cons e_str (a_cons (e_def (x := "_law_words") (ps := ["_law_urn_here", "_law_many"]) D__law_words hr (by omega) tk rfl (a_cons (e_name 0 rfl (.inl rfl)) (a_cons (e_name 1 rfl (.inl rfl)) a_nil))) a_nil))))) ss_nil)
  (ss_one (st_ret (e_ix hr (e_frz (s_lst (a_cons (e_tup (a_cons e_str a_nil)) (a_cons (e_tup (a_cons e_str a_nil)) a_nil)))) (e_bin o_sub (e_name 2 rfl (.inl rfl)) e_int) fun _ _ => rfl)))))
/-! ### Chief_hear -/
abbrev s_Chief_hear : Stmt := inClass (top 14) 12
theorem sc_Chief_hear : FnScope ["self", "letter", "word", "place", "turn"] ["self", "letter"] (defScope s_Chief_hear) := ⟨rfl, rfl, rfl, by decide +kernel, rfl, by decide +kernel, by decide +kernel⟩
def B_Chief_hear : En → Store → ResS :=
  sSeq (sAsg (vName 1) (gPat (.t [.n 2, .n 3, .n 4])))
  (sSeq (sIf (vOr (vB (v2 neD (vName 4) (v1 (fldF ["Chief"] "at_turn") (vName 0)))) (vB (v2 inD (vName 3) (v1 (fldF ["Chief"] "have_agreed") (vName 0))))) (sRet (vC (.bl false))) (sNil))
  (sSeq (sAsg (vC (.bl true)) (gSubR (v1 (fldF ["Chief"] "have_agreed") (vName 0)) (vName 3)))
  (sSeq (sIf (vAnd (vB (v2 eqD (vMeth [("Chief", ["self"], F_Chief_silent)] "silent" (vName 0) vNil) (vA mkTup (vNil)))) (vB (v1 (ktIn kt_SETTLED) (v1 (fldF ["Chief"] "now") (vName 0))))) (sAsg (v1 (ktIx kt_SETTLED) (v1 (fldF ["Chief"] "now") (vName 0))) (gTpK 2 (gsC (gFld ["Chief"] "now" (vName 0)) (gsC (gFld ["Chief"] "own" (vName 0)) (gsN))))) (sNil))
  (sRet (vC (.bl true))))))
def F_Chief_hear : List D → Store → Res D := fnF 2 3 B_Chief_hear
theorem ok_Chief_hear {P : Program} {w : World} {K : PySem.W.Frag} {mg : Str → Option Value} {base : Heap} (M : Mod0 K w mg) (T : TopMeth K mg "Chief" "hear" "Chief.hear" s_Chief_hear ["self", "letter"]) (D_Chief_silent : MethOk P w K mg base 1 "silent" "Chief" ["self"] F_Chief_silent) : MethOk P w K mg base 2 "hear" "Chief" ["self", "letter"] F_Chief_hear :=
  meth_ok (k := 1) (body := B_Chief_hear) T sc_Chief_hear rfl fun f cdv A outer s H E hr tk =>
  (ss_cons (st_asg (e_name 1 rfl (.inl rfl)) (g_pat (pat_t rfl (pats_cons (pat_n 2 sc_Chief_hear.nd rfl (.inl rfl)) (pats_cons (pat_n 3 sc_Chief_hear.nd rfl (.inl rfl)) (pats_cons (pat_n 4 sc_Chief_hear.nd rfl (.inl rfl)) pats_nil))))))
  (ss_cons (st_if (PW.pt (bw_or (t_cmp (o_ne hr) (e_name 4 rfl (.inl rfl)) (e_fld (f := "at_turn") (tb := ["Chief"]) (e_name 0 rfl (.inl rfl)) M.f_at_turn) (nomark _)) (bw_or1 (t_cmp (o_in hr) (e_name 3 rfl (.inl rfl)) (e_fld (f := "have_agreed") (tb := ["Chief"]) (e_name 0 rfl (.inl rfl)) M.f_have_agreed) rfl)))) (ss_one (st_ret e_bl)) ss_nil)
  (ss_cons (st_asg e_bl (g_subR hr (e_fld (f := "have_agreed") (tb := ["Chief"]) (e_name 0 rfl (.inl rfl)) M.f_have_agreed) (e_name 3 rfl (.inl rfl))))
  (ss_cons (st_if (PW.pt (bw_and (t_cmp (o_eq hr) (e_meth0 (m := "silent") (tb := [("Chief", ["self"], F_Chief_silent)]) (k := 1) ⟨D_Chief_silent.mono (by omega), trivial⟩ hr tk (e_name 0 rfl (.inl rfl))) (e_tup a_nil) (nomark _)) (bw_and1 (t_ktin M.dt_SETTLED rfl (e_fld (f := "now") (tb := ["Chief"]) (e_name 0 rfl (.inl rfl)) M.f_now))))) (ss_one (st_asg (e_ktix M.dt_SETTLED rfl (e_fld (f := "now") (tb := ["Chief"]) (e_name 0 rfl (.inl rfl)) M.f_now) fun _ _ => rfl) (g_tupK 2 rfl (gs_cons (g_fld (f := "now") (tb := ["Chief"]) (e_name 0 rfl (.inl rfl)) M.f_now) (gs_cons (g_fld (f := "own") (tb := ["Chief"]) (e_name 0 rfl (.inl rfl)) M.f_own) gs_nil))))) ss_nil)
  (ss_one (st_ret e_bl))))))
/-! ### _law_heard_right -/
abbrev s__law_heard_right : Stmt := top 29
theorem sc__law_heard_right : FnScope ["_law_urn_here", "_law_chief", "_law_state", "_law_place", "_law_turn", "_law_due", "_law_found"] ["_law_urn_here", "_law_chief", "_law_state"] (defScope s__law_heard_right) := ⟨rfl, rfl, rfl, by decide +kernel, rfl, by decide +kernel, by decide +kernel⟩
def B__law_heard_right : En → Store → ResS :=
  sSeq (sSet 3 (v2 addD (vC (.int 1)) (vA (fnN 2 F__law_draw) (vCons (vName 0) (vCons (v2 subD (vA lenD (vCons (v2 ixD (vName 2) (vC (.str "told"))) (vNil))) (vC (.int 1))) (vNil))))))
  (sSeq (sSet 4 (vA max2 (vCons (vC (.int 0)) (vCons (v2 subD (v2 ixD (vName 2) (vC (.str "turn"))) (v2 ixD (vFrz (vA mkLst (vCons (vC (.int 0)) (vCons (vC (.int 0)) (vCons (vC (.int 0)) (vCons (vC (.int 1)) (vCons (vC (.int 2)) (vNil)))))))) (vA (fnN 2 F__law_draw) (vCons (vName 0) (vCons (vC (.int 5)) (vNil)))))) (vNil)))))
  (sSeq (sSet 5 (vA (fnN 2 F__law_chief_hears) (vCons (vName 2) (vCons (vA mkTup (vCons (vC (.str "got")) (vCons (vName 3) (vCons (vName 4) (vNil))))) (vNil)))))
  (sSeq (sSet 6 (vMeth [("Chief", ["self", "letter"], F_Chief_hear)] "hear" (vName 1) (vCons (vA mkTup (vCons (vC (.str "got")) (vCons (vName 3) (vCons (vName 4) (vNil))))) (vNil))))
  (sRet (vAndV (vA isiD (vCons (vName 6) (vCons (vC (.ty "bool")) (vNil)))) (vAndV (v2 eqD (vName 6) (vName 5)) (vA (fnN 2 F__law_chief_stands) (vCons (vName 1) (vCons (vName 2) (vNil))))))))))
def F__law_heard_right : List D → Store → Res D := fnF 3 4 B__law_heard_right
theorem ok__law_heard_right {P : Program} {w : World} {K : PySem.W.Frag} {mg : Str → Option Value} {base : Heap} (M : Mod0 K w mg) (T : TopDef K mg "_law_heard_right" s__law_heard_right ["_law_urn_here", "_law_chief", "_law_state"]) (D_Chief_hear : MethOk P w K mg base 2 "hear" "Chief" ["self", "letter"] F_Chief_hear) (D__law_draw : DefOk P w K mg base "_law_draw" 1 ["_law_urn_here", "_law_wide"] F__law_draw) (D__law_chief_hears : DefOk P w K mg base "_law_chief_hears" 2 ["_law_state", "_law_letter"] F__law_chief_hears) (D__law_chief_stands : DefOk P w K mg base "_law_chief_stands" 3 ["_law_chief", "_law_state"] F__law_chief_stands) : DefOk P w K mg base "_law_heard_right" 4 ["_law_urn_here", "_law_chief", "_law_state"] F__law_heard_right :=
  def_ok (k := 3) (body := B__law_heard_right) T sc__law_heard_right rfl fun f cdv A outer s H E hr tk =>
  (ss_cons (st_set 3 sc__law_heard_right.nd rfl (.inl rfl) (e_bin o_add e_int (e_def (x := "_law_draw") (ps := ["_law_urn_here", "_law_wide"]) D__law_draw hr (by omega) tk rfl (a_cons (e_name 0 rfl (.inl rfl)) (a_cons (e_bin o_sub (e_callB (x := "len") b_len rfl M.b_len (by decide +kernel) (a_cons (e_ix hr (e_name 2 rfl (.inl rfl)) e_str fun _ _ => rfl) a_nil)) e_int) a_nil)))))
  (ss_cons (st_set 4 sc__law_heard_right.nd rfl (.inl rfl) (e_callB (x := "max") (b_max2 rfl) rfl M.b_max (by decide +kernel) (a_cons e_int (a_cons (e_bin o_sub (e_ix hr (e_name 2 rfl (.inl rfl)) e_str fun _ _ => rfl) (e_ix hr (e_frz (s_lst (a_cons e_int (a_cons e_int (a_cons e_int (a_cons e_int (a_cons e_int a_nil))))))) (e_def (x := "_law_draw") (ps := ["_law_urn_here", "_law_wide"]) D__law_draw hr (by omega) tk rfl (a_cons (e_name 0 rfl (.inl rfl)) (a_cons e_int a_nil))) fun _ _ => rfl)) a_nil))))
  (ss_cons (st_set 5 sc__law_heard_right.nd rfl (.inl rfl) (e_def (x := "_law_chief_hears") (ps := ["_law_state", "_law_letter"]) D__law_chief_hears hr (by omega) tk rfl (a_cons (e_name 2 rfl (.inl rfl)) (a_cons (e_tup (a_cons e_str (a_cons (e_name 3 rfl (.inl rfl)) (a_cons (e_name 4 rfl (.inl rfl)) a_nil)))) a_nil))))
  (ss_cons (st_set 6 sc__law_heard_right.nd rfl (.inl rfl) (e_meth (m := "hear") (tb := [("Chief", ["self", "letter"], F_Chief_hear)]) (k := 3) ⟨D_Chief_hear.mono (by omega), trivial⟩ hr tk (e_name 1 rfl (.inl rfl)) (a_cons (e_tup (a_cons e_str (a_cons (e_name 3 rfl (.inl rfl)) (a_cons (e_name 4 rfl (.inl rfl)) a_nil)))) a_nil)))
  (ss_one (st_ret (e_and (e_callB (x := "isinstance") b_isinstance rfl M.b_isinstance (by decide +kernel) (a_cons (e_name 6 rfl (.inl rfl)) (a_cons (e_bltn rfl M.b_bool (by decide +kernel) (show RelV (.ty "bool") _ from rfl) fun _ => .ty "bool") a_nil))) (e_and (e_cmp (o_eq hr) (e_name 6 rfl (.inl rfl)) (e_name 5 rfl (.inl rfl)) (nomark _)) (e_one (e_def (x := "_law_chief_stands") (ps := ["_law_chief", "_law_state"]) D__law_chief_stands hr (by omega) tk rfl (a_cons (e_name 1 rfl (.inl rfl)) (a_cons (e_name 2 rfl (.inl rfl)) a_nil))))))))))))
/-! ### Chief___init__ -/
abbrev s_Chief___init__ : Stmt := inClass (top 14) 0
theorem sc_Chief___init__ : FnScope ["self", "many", "place"] ["self", "many"] (defScope s_Chief___init__) := ⟨rfl, rfl, rfl, by decide +kernel, rfl, by decide +kernel, by decide +kernel⟩
def B_Chief___init__ : En → Store → ResS :=
  sSeq (sAsg (vFrz (v2 lrng2 (vC (.int 1)) (vName 1))) (gFld ["Chief"] "places" (vName 0)))
  (sSeq (sAsg (vC (.int 0)) (gFld ["Chief"] "at_turn" (vName 0)))
  (sSeq (sAsg (vC (.str "clear")) (gFld ["Chief"] "now" (vName 0)))
  (sSeq (sAsg (vC (.str "free")) (gFld ["Chief"] "own" (vName 0)))
  (sSeq (sAsg (v2 repD (vA mkTup (vCons (vC (.str "free")) (vNil))) (vName 1)) (gFld ["Chief"] "told" (vName 0)))
  (sAsg (vRef (vDc (v1 seqF (v1 (fldF ["Chief"] "places") (vName 0))) (.n 2) [2] ttYes (vName 2) (vC (.bl true)))) (gFld ["Chief"] "have_agreed" (vName 0)))))))
def F_Chief___init__ : List D → Store → Res D := fnF 2 1 B_Chief___init__
theorem ok_Chief___init__ {P : Program} {w : World} {K : PySem.W.Frag} {mg : Str → Option Value} {base : Heap} (M : Mod0 K w mg) (T : TopInit K mg "Chief" "Chief.__init__" s_Chief___init__ ["self", "many"])  : InitOk P w K mg base 1 "Chief" ["self", "many"] F_Chief___init__ :=
  init_ok (k := 0) (body := B_Chief___init__) T sc_Chief___init__ rfl fun f cdv A outer s H E hr tk =>
  (ss_cons (st_fld (f := "places") (tb := ["Chief"]) (by exact (e_frz (s_listrange2 rfl rfl M.b_list rfl M.b_range e_int (e_name 1 rfl (.inl rfl))))) (e_name 0 rfl (.inl rfl)) M.f_places)
  (ss_cons (st_fld (f := "at_turn") (tb := ["Chief"]) (by exact e_int) (e_name 0 rfl (.inl rfl)) M.f_at_turn)
  (ss_cons (st_fld (f := "now") (tb := ["Chief"]) (by exact (M.c_CLEAR rfl)) (e_name 0 rfl (.inl rfl)) M.f_now)
  (ss_cons (st_fld (f := "own") (tb := ["Chief"]) (by exact e_str) (e_name 0 rfl (.inl rfl)) M.f_own)
  (ss_cons (st_fld (f := "told") (tb := ["Chief"]) (by exact (e_bin o_rep (e_tup (a_cons e_str a_nil)) (e_name 1 rfl (.inl rfl)))) (e_name 0 rfl (.inl rfl)) M.f_told)
  (ss_one (st_fld (f := "have_agreed") (tb := ["Chief"]) (by exact (e_ref (s_dc0 (own := [("place", 2)]) (N0 := ["self", "many", "place"]) (sc0 := defScope s_Chief___init__) rfl sc_Chief___init__.nd (i_seq (e_fld (f := "places") (tb := ["Chief"]) (e_name 0 rfl (.inl rfl)) M.f_places)) (by decide +kernel) rfl rfl (by decide) (fun _ _ _ _ _ => (pat_n 2 sc_Chief___init__.nd rfl (.inl rfl))) (fun _ _ _ _ _ => by exact (e_name 2 rfl (.inl rfl))) (fun _ _ _ _ _ => by exact e_bl)))) (e_name 0 rfl (.inl rfl)) M.f_have_agreed)))))))
/-! ### law -/
abbrev s_law : Stmt := top 30
theorem sc_law : FnScope ["_law_script", "_law_spot", "_law_urn_here", "_law_many", "_law_chief", "_law_state", "_law_k", "_law_line", "_law_due"] ["_law_script"] (defScope s_law) := ⟨rfl, rfl, rfl, by decide +kernel, rfl, by decide +kernel, by decide +kernel⟩
def B_law : En → Store → ResS :=
  sSeq (sFor (vA rng1F (vCons (vA max2 (vCons (vC (.int 1)) (vCons (vA min2 (vCons (vC (.int 3)) (vCons (vA lenD (vCons (vName 0) (vNil))) (vNil)))) (vNil)))) (vNil))) (gPat (.n 1)) (sSeq (sSet 2 (vA (fnN 2 F__law_urn) (vCons (vName 0) (vCons (vName 1) (vNil)))))
  (sSeq (sSet 3 (v2 addD (vC (.int 2)) (vA (fnN 2 F__law_draw) (vCons (vName 2) (vCons (vC (.int 3)) (vNil))))))
  (sSeq (sPar 4 5 (vCons (vA (makeD "Chief" 2 F_Chief___init__) (vCons (vName 3) (vNil))) (vCons (vA (fnN 1 F__law_chief_state) (vCons (vName 3) (vNil))) (vNil))))
  (sSeq (sIf (vNot (vB (vA (fnN 2 F__law_chief_stands) (vCons (vName 4) (vCons (vName 5) (vNil)))))) (sRet (vC (.bl false))) (sNil))
  (sFor (vA rng1F (vCons (v2 addD (vC (.int 10)) (vA (fnN 2 F__law_draw) (vCons (vName 2) (vCons (vC (.int 41)) (vNil))))) (vNil))) (gPat (.n 6)) (sIf (vB (v2 gtD (vA (fnN 2 F__law_draw) (vCons (vName 2) (vCons (vC (.int 3)) (vNil)))) (vC (.int 0)))) (sIf (vNot (vB (vA (fnN 3 F__law_heard_right) (vCons (vName 2) (vCons (vName 4) (vCons (vName 5) (vNil))))))) (sRet (vC (.bl false))) (sNil)) (sSeq (sSet 7 (vA (fnN 2 F__law_deed_of) (vCons (vName 2) (vCons (vName 3) (vNil)))))
  (sSeq (sSet 8 (vA (fnN 2 F__law_chief_due) (vCons (vName 5) (vCons (vName 7) (vNil)))))
  (sIf (vOr (vB (v2 neD (vA reprD (vCons (vA (fnN 2 F__law_chief_does) (vCons (vName 4) (vCons (vName 7) (vNil)))) (vNil))) (vA reprD (vCons (vName 8) (vNil))))) (vNot (vB (vA (fnN 2 F__law_chief_stands) (vCons (vName 4) (vCons (vName 5) (vNil))))))) (sRet (vC (.bl false))) (sNil)))))))))))
  (sRet (vC (.bl true)))
def F_law : List D → Store → Res D := fnF 1 8 B_law
theorem ok_law {P : Program} {w : World} {K : PySem.W.Frag} {mg : Str → Option Value} {base : Heap} (M : Mod0 K w mg) (T : TopDef K mg "law" s_law ["_law_script"]) (D_Chief___init__ : InitOk P w K mg base 1 "Chief" ["self", "many"] F_Chief___init__) (D__law_urn : DefOk P w K mg base "_law_urn" 1 ["_law_script", "_law_spot"] F__law_urn) (D__law_draw : DefOk P w K mg base "_law_draw" 1 ["_law_urn_here", "_law_wide"] F__law_draw) (D__law_chief_state : DefOk P w K mg base "_law_chief_state" 1 ["_law_many"] F__law_chief_state) (D__law_chief_due : DefOk P w K mg base "_law_chief_due" 2 ["_law_state", "_law_line"] F__law_chief_due) (D__law_chief_does : DefOk P w K mg base "_law_chief_does" 5 ["_law_who", "_law_line"] F__law_chief_does) (D__law_chief_stands : DefOk P w K mg base "_law_chief_stands" 3 ["_law_chief", "_law_state"] F__law_chief_stands) (D__law_deed_of : DefOk P w K mg base "_law_deed_of" 3 ["_law_urn_here", "_law_many"] F__law_deed_of) (D__law_heard_right : DefOk P w K mg base "_law_heard_right" 4 ["_law_urn_here", "_law_chief", "_law_state"] F__law_heard_right) : DefOk P w K mg base "law" 6 ["_law_script"] F_law :=
  def_ok (k := 5) (body := B_law) T sc_law rfl fun f cdv A outer s H E hr tk =>
  (ss_cons (st_for (passes_of rfl) rfl (i_range1 rfl M.b_range (a_cons (e_callB (x := "max") (b_max2 rfl) rfl M.b_max (by decide +kernel) (a_cons e_int (a_cons (e_callB (x := "min") (b_min2 rfl) rfl M.b_min (by decide +kernel) (a_cons e_int (a_cons (e_callB (x := "len") b_len rfl M.b_len (by decide +kernel) (a_cons (e_name 0 rfl (.inl rfl)) a_nil)) a_nil))) a_nil))) a_nil)) (g_pat (pat_n 1 sc_law.nd rfl (.inl rfl))) (ss_cons (st_set 2 sc_law.nd rfl (.inl rfl) (e_def (x := "_law_urn") (ps := ["_law_script", "_law_spot"]) D__law_urn hr (by omega) tk rfl (a_cons (e_name 0 rfl (.inl rfl)) (a_cons (e_name 1 rfl (.inl rfl)) a_nil))))
  (ss_cons (st_set 3 sc_law.nd rfl (.inl rfl) (e_bin o_add e_int (e_def (x := "_law_draw") (ps := ["_law_urn_here", "_law_wide"]) D__law_draw hr (by omega) tk rfl (a_cons (e_name 2 rfl (.inl rfl)) (a_cons e_int a_nil)))))
  (ss_cons (st_par (i := 4) (j := 5) rfl sc_law.nd rfl rfl (by decide) rfl rfl (a_cons (e_make (k := 4) (ps := ["self", "many"]) (D_Chief___init__.mono (by omega)) hr tk rfl (a_cons (e_name 3 rfl (.inl rfl)) a_nil)) (a_cons (e_def (x := "_law_chief_state") (ps := ["_law_many"]) D__law_chief_state hr (by omega) tk rfl (a_cons (e_name 3 rfl (.inl rfl)) a_nil)) a_nil)) rfl)
  (ss_cons (st_if (b_not (t_val (e_def (x := "_law_chief_stands") (ps := ["_law_chief", "_law_state"]) D__law_chief_stands hr (by omega) tk rfl (a_cons (e_name 4 rfl (.inl rfl)) (a_cons (e_name 5 rfl (.inl rfl)) a_nil))))) (ss_one (st_ret e_bl)) ss_nil)
  (ss_one (st_for (passes_of rfl) rfl (i_range1 rfl M.b_range (a_cons (e_bin o_add e_int (e_def (x := "_law_draw") (ps := ["_law_urn_here", "_law_wide"]) D__law_draw hr (by omega) tk rfl (a_cons (e_name 2 rfl (.inl rfl)) (a_cons e_int a_nil)))) a_nil)) (g_pat (pat_n 6 sc_law.nd rfl (.inl rfl))) (ss_one (st_if (t_cmp o_gt (e_def (x := "_law_draw") (ps := ["_law_urn_here", "_law_wide"]) D__law_draw hr (by omega) tk rfl (a_cons (e_name 2 rfl (.inl rfl)) (a_cons e_int a_nil))) e_int (nomark _)) (ss_one (st_if (b_not (t_val (e_def (x := "_law_heard_right") (ps := ["_law_urn_here", "_law_chief", "_law_state"]) D__law_heard_right hr (by omega) tk rfl (a_cons (e_name 2 rfl (.inl rfl)) (a_cons (e_name 4 rfl (.inl rfl)) (a_cons (e_name 5 rfl (.inl rfl)) a_nil)))))) (ss_one (st_ret e_bl)) ss_nil)) (ss_cons (st_set 7 sc_law.nd rfl (.inl rfl) (e_def (x := "_law_deed_of") (ps := ["_law_urn_here", "_law_many"]) D__law_deed_of hr (by omega) tk rfl (a_cons (e_name 2 rfl (.inl rfl)) (a_cons (e_name 3 rfl (.inl rfl)) a_nil))))
  (ss_cons (st_set 8 sc_law.nd rfl (.inl rfl) (e_def (x := "_law_chief_due") (ps := ["_law_state", "_law_line"]) D__law_chief_due hr (by omega) tk rfl (a_cons (e_name 5 rfl (.inl rfl)) (a_cons (e_name 7 rfl (.inl rfl)) a_nil))))
  (ss_one (st_if (PW.pt (bw_or (t_cmp (o_ne hr) (e_callB (x := "repr") (b_repr hr) rfl M.b_repr (by decide +kernel) (a_cons (e_def (x := "_law_chief_does") (ps := ["_law_who", "_law_line"]) D__law_chief_does hr (by omega) tk rfl (a_cons (e_name 4 rfl (.inl rfl)) (a_cons (e_name 7 rfl (.inl rfl)) a_nil))) a_nil)) (e_callB (x := "repr") (b_repr hr) rfl M.b_repr (by decide +kernel) (a_cons (e_name 8 rfl (.inl rfl)) a_nil)) (nomark _)) (bw_or1 (b_not (t_val (e_def (x := "_law_chief_stands") (ps := ["_law_chief", "_law_state"]) D__law_chief_stands hr (by omega) tk rfl (a_cons (e_name 4 rfl (.inl rfl)) (a_cons (e_name 5 rfl (.inl rfl)) a_nil)))))))) (ss_one (st_ret e_bl)) ss_nil)))))))))))))
  (ss_one (st_ret e_bl)))
structure Tops (K : PySem.W.Frag) (w : World) (mg : Str → Option Value) : Prop where
  M : Mod0 K w mg
  T_is_row : TopDef K mg "is_row" s_is_row ["thing", "least", "most"]
  T_are_words : TopDef K mg "are_words" s_are_words ["thing", "many"]
  T__law_urn : TopDef K mg "_law_urn" s__law_urn ["_law_script", "_law_spot"]
  T__law_draw : TopDef K mg "_law_draw" s__law_draw ["_law_urn_here", "_law_wide"]
  T__law_words : TopDef K mg "_law_words" s__law_words ["_law_urn_here", "_law_many"]
  T__law_chief_state : TopDef K mg "_law_chief_state" s__law_chief_state ["_law_many"]
  T__law_silent : TopDef K mg "_law_silent" s__law_silent ["_law_state"]
  T__law_begun : TopDef K mg "_law_begun" s__law_begun ["_law_state", "_law_now", "_law_told", "_law_own"]
  T__law_are_words : TopDef K mg "_law_are_words" s__law_are_words ["_law_thing", "_law_many"]
  T__law_chief_due : TopDef K mg "_law_chief_due" s__law_chief_due ["_law_state", "_law_line"]
  T__law_chief_hears : TopDef K mg "_law_chief_hears" s__law_chief_hears ["_law_state", "_law_letter"]
  T__law_letters_due : TopDef K mg "_law_letters_due" s__law_letters_due ["_law_state"]
  T_Chief_silent : TopMeth K mg "Chief" "silent" "Chief.silent" s_Chief_silent ["self"]
  T_Chief_look_agreed : TopMeth K mg "Chief" "look_agreed" "Chief.look_agreed" s_Chief_look_agreed ["self", "phases"]
  T_Chief_begin : TopMeth K mg "Chief" "begin" "Chief.begin" s_Chief_begin ["self", "phase", "told"]
  T_Chief_deal : TopMeth K mg "Chief" "deal" "Chief.deal" s_Chief_deal ["self", "words"]
  T_Chief_clear : TopMeth K mg "Chief" "clear" "Chief.clear" s_Chief_clear ["self"]
  T_Chief_ask : TopMeth K mg "Chief" "ask" "Chief.ask" s_Chief_ask ["self"]
  T__law_chief_does : TopDef K mg "_law_chief_does" s__law_chief_does ["_law_who", "_law_line"]
  T_Chief_letters : TopMeth K mg "Chief" "letters" "Chief.letters" s_Chief_letters ["self"]
  T_Chief_phase : TopMeth K mg "Chief" "phase" "Chief.phase" s_Chief_phase ["self"]
  T_Chief_agreed : TopMeth K mg "Chief" "agreed" "Chief.agreed" s_Chief_agreed ["self"]
  T_Chief_word : TopMeth K mg "Chief" "word" "Chief.word" s_Chief_word ["self"]
  T_Chief_turn : TopMeth K mg "Chief" "turn" "Chief.turn" s_Chief_turn ["self"]
  T__law_chief_stands : TopDef K mg "_law_chief_stands" s__law_chief_stands ["_law_chief", "_law_state"]
  T__law_deed_of : TopDef K mg "_law_deed_of" s__law_deed_of ["_law_urn_here", "_law_many"]
  T_Chief_hear : TopMeth K mg "Chief" "hear" "Chief.hear" s_Chief_hear ["self", "letter"]
  T__law_heard_right : TopDef K mg "_law_heard_right" s__law_heard_right ["_law_urn_here", "_law_chief", "_law_state"]
  T_Chief___init__ : TopInit K mg "Chief" "Chief.__init__" s_Chief___init__ ["self", "many"]
  T_law : TopDef K mg "law" s_law ["_law_script"]
  TX_NoWords : TopX K mg "NoWords" "NoWords.__init__" s_NoWords___init__ ["self", "told"] ["told"]
  TX_NotAgreed : TopX K mg "NotAgreed" "NotAgreed.__init__" s_NotAgreed___init__ ["self", "now", "missing"] ["now", "missing"]
theorem all_ok {P : Program} {w : World} {K : PySem.W.Frag} {mg : Str → Option Value} {base : Heap} (T : Tops K w mg) : DefOk P w K mg base "law" 6 ["_law_script"] F_law := by
  have X_NoWords := xinit1 (P := P) (w := w) (base := base) (k := 0) T.TX_NoWords sc_NoWords___init__ rfl
  have X_NotAgreed := xinit2 (P := P) (w := w) (base := base) (k := 0) T.TX_NotAgreed sc_NotAgreed___init__ rfl
  have D_is_row := ok_is_row (P := P) (w := w) (base := base) T.M T.T_is_row 
  have D_are_words := ok_are_words (P := P) (w := w) (base := base) T.M T.T_are_words D_is_row
  have D__law_urn := ok__law_urn (P := P) (w := w) (base := base) T.M T.T__law_urn 
  have D__law_draw := ok__law_draw (P := P) (w := w) (base := base) T.M T.T__law_draw 
  have D__law_words := ok__law_words (P := P) (w := w) (base := base) T.M T.T__law_words D__law_draw
  have D__law_chief_state := ok__law_chief_state (P := P) (w := w) (base := base) T.M T.T__law_chief_state 
  have D__law_silent := ok__law_silent (P := P) (w := w) (base := base) T.M T.T__law_silent 
  have D__law_begun := ok__law_begun (P := P) (w := w) (base := base) T.M T.T__law_begun 
  have D__law_are_words := ok__law_are_words (P := P) (w := w) (base := base) T.M T.T__law_are_words 
  have D__law_chief_due := ok__law_chief_due (P := P) (w := w) (base := base) T.M T.T__law_chief_due D__law_silent D__law_begun D__law_are_words
  have D__law_chief_hears := ok__law_chief_hears (P := P) (w := w) (base := base) T.M T.T__law_chief_hears D__law_silent
  have D__law_letters_due := ok__law_letters_due (P := P) (w := w) (base := base) T.M T.T__law_letters_due D__law_silent
  have D_Chief_silent := ok_Chief_silent (P := P) (w := w) (base := base) T.M T.T_Chief_silent 
  have D_Chief_look_agreed := ok_Chief_look_agreed (P := P) (w := w) (base := base) T.M T.T_Chief_look_agreed D_Chief_silent X_NotAgreed
  have D_Chief_begin := ok_Chief_begin (P := P) (w := w) (base := base) T.M T.T_Chief_begin 
  have D_Chief_deal := ok_Chief_deal (P := P) (w := w) (base := base) T.M T.T_Chief_deal D_are_words D_Chief_look_agreed D_Chief_begin X_NoWords
  have D_Chief_clear := ok_Chief_clear (P := P) (w := w) (base := base) T.M T.T_Chief_clear D_Chief_look_agreed D_Chief_begin
  have D_Chief_ask := ok_Chief_ask (P := P) (w := w) (base := base) T.M T.T_Chief_ask D_Chief_look_agreed D_Chief_begin
  have D__law_chief_does := ok__law_chief_does (P := P) (w := w) (base := base) T.M T.T__law_chief_does D_Chief_deal D_Chief_ask D_Chief_clear
  have D_Chief_letters := ok_Chief_letters (P := P) (w := w) (base := base) T.M T.T_Chief_letters D_Chief_silent
  have D_Chief_phase := ok_Chief_phase (P := P) (w := w) (base := base) T.M T.T_Chief_phase 
  have D_Chief_agreed := ok_Chief_agreed (P := P) (w := w) (base := base) T.M T.T_Chief_agreed 
  have D_Chief_word := ok_Chief_word (P := P) (w := w) (base := base) T.M T.T_Chief_word 
  have D_Chief_turn := ok_Chief_turn (P := P) (w := w) (base := base) T.M T.T_Chief_turn 
  have D__law_chief_stands := ok__law_chief_stands (P := P) (w := w) (base := base) T.M T.T__law_chief_stands D_Chief_turn D_Chief_phase D_Chief_word D_Chief_agreed D_Chief_letters D__law_letters_due
  have D__law_deed_of := ok__law_deed_of (P := P) (w := w) (base := base) T.M T.T__law_deed_of D__law_draw D__law_words
  have D_Chief_hear := ok_Chief_hear (P := P) (w := w) (base := base) T.M T.T_Chief_hear D_Chief_silent
  have D__law_heard_right := ok__law_heard_right (P := P) (w := w) (base := base) T.M T.T__law_heard_right D_Chief_hear D__law_draw D__law_chief_hears D__law_chief_stands
  have D_Chief___init__ := ok_Chief___init__ (P := P) (w := w) (base := base) T.M T.T_Chief___init__ 
  have D_law := ok_law (P := P) (w := w) (base := base) T.M T.T_law D_Chief___init__ D__law_urn D__law_draw D__law_chief_state D__law_chief_due D__law_chief_does D__law_chief_stands D__law_deed_of D__law_heard_right
  exact D_law
theorem tops_mk {K : PySem.W.Frag} {w : World} {h : Heap} {mg : Str → Option Value} (X : K.In h) (G : h.Ns mainGlobals mg)
    {C_Chief : Addr} (aC_Chief : PySem.W.nsIn K mainGlobals "Chief" = some (some (.ref C_Chief))) (pg_Chief : PySem.W.plainGet K C_Chief Str.empty = true) (hd_Chief : PySem.W.hasDictIn K C_Chief = true) (po_Chief : PySem.W.plainOver K C_Chief = true)
    (sa_Chief : PySem.W.findIn K (.ref C_Chief) "__setattr__" = some (some (.builtin "object.__setattr__"))) (mk_Chief : PySem.W.makesIn K C_Chief = true) (kc_Chief : PySem.W.keepIn K (.ref C_Chief) = true)
    {C_NoWords : Addr} (aC_NoWords : PySem.W.nsIn K mainGlobals "NoWords" = some (some (.ref C_NoWords))) (xb_NoWords : xfB K C_NoWords = true)
    {C_NotAgreed : Addr} (aC_NotAgreed : PySem.W.nsIn K mainGlobals "NotAgreed" = some (some (.ref C_NotAgreed))) (xb_NotAgreed : xfB K C_NotAgreed = true)
    (xi_NoWords : PySem.W.excInitIn K C_NoWords [.type "ValueError", .type "Exception", .type "BaseException", .type "object"] "ValueError.__new__" = true) (xo_NoWords : PySem.W.excOver K C_NoWords [.type "ValueError", .type "Exception", .type "BaseException", .type "object"] = true) (xs_NoWords : PySem.W.findIn K (.ref C_NoWords) "__setattr__" = some (some (.builtin "object.__setattr__"))) (xy_NoWords : PySem.W.typeIn K (.ref C_NoWords) = some (.type "type")) (xk_NoWords : PySem.W.keepIn K (.ref C_NoWords) = true)
    (xn_NoWords_told : PySem.W.findIn K (.ref C_NoWords) "told" = some none)
    {fx_NoWords : Addr} {ocx_NoWords kVx_NoWords dcx_NoWords pmx_NoWords cdx_NoWords ctx_NoWords : Value} {odx_NoWords anx_NoWords : Option Addr} {slx_NoWords : Array (Option Value)}
    (ax_NoWords : PySem.W.findIn K (.ref C_NoWords) "__init__" = some (some (.ref fx_NoWords))) (tx_NoWords : PySem.W.typeIn K (.ref fx_NoWords) = some (.type "function"))
    (lx_NoWords : K.lookup fx_NoWords = some ⟨ocx_NoWords, odx_NoWords, .func (PySem.W.fnOf "__init__" "NoWords.__init__" (defArgs s_NoWords___init__) (defBody s_NoWords___init__) (defScope s_NoWords___init__) .none kVx_NoWords dcx_NoWords pmx_NoWords anx_NoWords cdx_NoWords ctx_NoWords), slx_NoWords⟩)
    (cx_NoWords : PySem.W.codeIn K cdx_NoWords "NoWords.__init__" = true) (kx_NoWords : PySem.W.keepIn K (.ref fx_NoWords) = true)
    (xi_NotAgreed : PySem.W.excInitIn K C_NotAgreed [.type "RuntimeError", .type "Exception", .type "BaseException", .type "object"] "RuntimeError.__new__" = true) (xo_NotAgreed : PySem.W.excOver K C_NotAgreed [.type "RuntimeError", .type "Exception", .type "BaseException", .type "object"] = true) (xs_NotAgreed : PySem.W.findIn K (.ref C_NotAgreed) "__setattr__" = some (some (.builtin "object.__setattr__"))) (xy_NotAgreed : PySem.W.typeIn K (.ref C_NotAgreed) = some (.type "type")) (xk_NotAgreed : PySem.W.keepIn K (.ref C_NotAgreed) = true)
    (xn_NotAgreed_now : PySem.W.findIn K (.ref C_NotAgreed) "now" = some none)
    (xn_NotAgreed_missing : PySem.W.findIn K (.ref C_NotAgreed) "missing" = some none)
    {fx_NotAgreed : Addr} {ocx_NotAgreed kVx_NotAgreed dcx_NotAgreed pmx_NotAgreed cdx_NotAgreed ctx_NotAgreed : Value} {odx_NotAgreed anx_NotAgreed : Option Addr} {slx_NotAgreed : Array (Option Value)}
    (ax_NotAgreed : PySem.W.findIn K (.ref C_NotAgreed) "__init__" = some (some (.ref fx_NotAgreed))) (tx_NotAgreed : PySem.W.typeIn K (.ref fx_NotAgreed) = some (.type "function"))
    (lx_NotAgreed : K.lookup fx_NotAgreed = some ⟨ocx_NotAgreed, odx_NotAgreed, .func (PySem.W.fnOf "__init__" "NotAgreed.__init__" (defArgs s_NotAgreed___init__) (defBody s_NotAgreed___init__) (defScope s_NotAgreed___init__) .none kVx_NotAgreed dcx_NotAgreed pmx_NotAgreed anx_NotAgreed cdx_NotAgreed ctx_NotAgreed), slx_NotAgreed⟩)
    (cx_NotAgreed : PySem.W.codeIn K cdx_NotAgreed "NotAgreed.__init__" = true) (kx_NotAgreed : PySem.W.keepIn K (.ref fx_NotAgreed) = true)
    (z0 : PySem.W.nsIn K mainGlobals "abs" = some none)
    (z1 : PySem.W.nsIn K mainGlobals "all" = some none)
    (z2 : PySem.W.nsIn K mainGlobals "bool" = some none)
    (z3 : PySem.W.nsIn K mainGlobals "isinstance" = some none)
    (z4 : PySem.W.nsIn K mainGlobals "len" = some none)
    (z5 : PySem.W.nsIn K mainGlobals "list" = some none)
    (z6 : PySem.W.nsIn K mainGlobals "max" = some none)
    (z7 : PySem.W.nsIn K mainGlobals "min" = some none)
    (z8 : PySem.W.nsIn K mainGlobals "range" = some none)
    (z9 : PySem.W.nsIn K mainGlobals "repr" = some none)
    (z10 : PySem.W.nsIn K mainGlobals "sorted" = some none)
    (z11 : PySem.W.nsIn K mainGlobals "str" = some none)
    (z12 : PySem.W.nsIn K mainGlobals "tuple" = some none)
    {t14 : Tok} (z14 : PySem.W.nsIn K mainGlobals "ASKING" = some (some (.str "asking" t14)))
    {t15 : Tok} (z15 : PySem.W.nsIn K mainGlobals "CLEAR" = some (some (.str "clear" t15)))
    {t16 : Tok} (z16 : PySem.W.nsIn K mainGlobals "CLEARING" = some (some (.str "clearing" t16)))
    {t17 : Tok} (z17 : PySem.W.nsIn K mainGlobals "DEALT" = some (some (.str "dealt" t17)))
    {t18 : Tok} (z18 : PySem.W.nsIn K mainGlobals "HELD" = some (some (.str "held" t18)))
    {dd19 : Addr} {dn19 : Nat} {dh19_0 : Int} {dt19_0 : Tok} {df19_0 : Addr} {tn19_0 : Nat} {tk19_0_0 : Tok} {tk19_0_1 : Tok} {dh19_1 : Int} {dt19_1 : Tok} {df19_1 : Addr} {tn19_1 : Nat} {tk19_1_0 : Tok} {tk19_1_1 : Tok}
    (z19 : PySem.W.nsIn K mainGlobals "SETTLED" = some (some (.ref dd19)))
    (y19 : K.lookup dd19 = some ⟨.type "dict", none, .dict #[⟨dh19_0, .str "asking" dt19_0, .ref df19_0⟩, ⟨dh19_1, .str "clearing" dt19_1, .ref df19_1⟩] dn19, #[]⟩)
    (x19 : PySem.W.KeysLit w.params [⟨dh19_0, .str "asking" dt19_0, .ref df19_0⟩, ⟨dh19_1, .str "clearing" dt19_1, .ref df19_1⟩])
    (w19 : (dd19 == sysModules) = false)
    (u19_0 : K.lookup df19_0 = some ⟨.type "tuple", none, .seq #[.str "held" tk19_0_0, .str "hold" tk19_0_1] tn19_0, #[]⟩)
    (u19_1 : K.lookup df19_1 = some ⟨.type "tuple", none, .seq #[.str "clear" tk19_1_0, .str "free" tk19_1_1] tn19_1, #[]⟩)
    (nf_Chief_at_turn : PySem.W.findIn K (.ref C_Chief) "at_turn" = some none)
    (nf_Chief_have_agreed : PySem.W.findIn K (.ref C_Chief) "have_agreed" = some none)
    (nf_Chief_now : PySem.W.findIn K (.ref C_Chief) "now" = some none)
    (nf_Chief_own : PySem.W.findIn K (.ref C_Chief) "own" = some none)
    (nf_Chief_places : PySem.W.findIn K (.ref C_Chief) "places" = some none)
    (nf_Chief_told : PySem.W.findIn K (.ref C_Chief) "told" = some none)
    {tq27 : Addr} {tn27 : Nat} {tk27_0 : Tok} {tk27_1 : Tok} {tk27_2 : Tok}
    (z27 : PySem.W.nsIn K mainGlobals "WORDS" = some (some (.ref tq27)))
    (y27 : K.lookup tq27 = some ⟨.type "tuple", none, .seq #[.str "climb" tk27_0, .str "hold" tk27_1, .str "sink" tk27_2] tn27, #[]⟩)
    (xm_NotAgreed_NoWords : PySem.W.exmOne K (.ref C_NotAgreed) (.ref C_NoWords) = some false)
    (xm_NoWords_NoWords : PySem.W.exmOne K (.ref C_NoWords) (.ref C_NoWords) = some true)
    (xm_NotAgreed_NotAgreed : PySem.W.exmOne K (.ref C_NotAgreed) (.ref C_NotAgreed) = some true)
    (xm_NoWords_NotAgreed : PySem.W.exmOne K (.ref C_NoWords) (.ref C_NotAgreed) = some false)
    {f0 : Addr} {oc0 kV0 dc0 pm0 cd0 ct0 : Value} {od0 an0 : Option Addr} {sl0 : Array (Option Value)}
    (a0 : PySem.W.nsIn K mainGlobals "is_row" = some (some (.ref f0)))
    (l0 : K.lookup f0 = some ⟨oc0, od0, .func (PySem.W.fnOf "is_row" "is_row" (defArgs s_is_row) (defBody s_is_row) (defScope s_is_row) .none kV0 dc0 pm0 an0 cd0 ct0), sl0⟩)
    (c0 : PySem.W.codeIn K cd0 "is_row" = true) (k0 : PySem.W.keepIn K (.ref f0) = true)
    {f1 : Addr} {oc1 kV1 dc1 pm1 cd1 ct1 : Value} {od1 an1 : Option Addr} {sl1 : Array (Option Value)}
    (a1 : PySem.W.nsIn K mainGlobals "are_words" = some (some (.ref f1)))
    (l1 : K.lookup f1 = some ⟨oc1, od1, .func (PySem.W.fnOf "are_words" "are_words" (defArgs s_are_words) (defBody s_are_words) (defScope s_are_words) .none kV1 dc1 pm1 an1 cd1 ct1), sl1⟩)
    (c1 : PySem.W.codeIn K cd1 "are_words" = true) (k1 : PySem.W.keepIn K (.ref f1) = true)
    {f2 : Addr} {oc2 kV2 dc2 pm2 cd2 ct2 : Value} {od2 an2 : Option Addr} {sl2 : Array (Option Value)}
    (a2 : PySem.W.nsIn K mainGlobals "_law_urn" = some (some (.ref f2)))
    (l2 : K.lookup f2 = some ⟨oc2, od2, .func (PySem.W.fnOf "_law_urn" "_law_urn" (defArgs s__law_urn) (defBody s__law_urn) (defScope s__law_urn) .none kV2 dc2 pm2 an2 cd2 ct2), sl2⟩)
    (c2 : PySem.W.codeIn K cd2 "_law_urn" = true) (k2 : PySem.W.keepIn K (.ref f2) = true)
    {f3 : Addr} {oc3 kV3 dc3 pm3 cd3 ct3 : Value} {od3 an3 : Option Addr} {sl3 : Array (Option Value)}
    (a3 : PySem.W.nsIn K mainGlobals "_law_draw" = some (some (.ref f3)))
    (l3 : K.lookup f3 = some ⟨oc3, od3, .func (PySem.W.fnOf "_law_draw" "_law_draw" (defArgs s__law_draw) (defBody s__law_draw) (defScope s__law_draw) .none kV3 dc3 pm3 an3 cd3 ct3), sl3⟩)
    (c3 : PySem.W.codeIn K cd3 "_law_draw" = true) (k3 : PySem.W.keepIn K (.ref f3) = true)
    {f4 : Addr} {oc4 kV4 dc4 pm4 cd4 ct4 : Value} {od4 an4 : Option Addr} {sl4 : Array (Option Value)}
    (a4 : PySem.W.nsIn K mainGlobals "_law_words" = some (some (.ref f4)))
    (l4 : K.lookup f4 = some ⟨oc4, od4, .func (PySem.W.fnOf "_law_words" "_law_words" (defArgs s__law_words) (defBody s__law_words) (defScope s__law_words) .none kV4 dc4 pm4 an4 cd4 ct4), sl4⟩)
    (c4 : PySem.W.codeIn K cd4 "_law_words" = true) (k4 : PySem.W.keepIn K (.ref f4) = true)
    {f5 : Addr} {oc5 kV5 dc5 pm5 cd5 ct5 : Value} {od5 an5 : Option Addr} {sl5 : Array (Option Value)}
    (a5 : PySem.W.nsIn K mainGlobals "_law_chief_state" = some (some (.ref f5)))
    (l5 : K.lookup f5 = some ⟨oc5, od5, .func (PySem.W.fnOf "_law_chief_state" "_law_chief_state" (defArgs s__law_chief_state) (defBody s__law_chief_state) (defScope s__law_chief_state) .none kV5 dc5 pm5 an5 cd5 ct5), sl5⟩)
    (c5 : PySem.W.codeIn K cd5 "_law_chief_state" = true) (k5 : PySem.W.keepIn K (.ref f5) = true)
    {f6 : Addr} {oc6 kV6 dc6 pm6 cd6 ct6 : Value} {od6 an6 : Option Addr} {sl6 : Array (Option Value)}
    (a6 : PySem.W.nsIn K mainGlobals "_law_silent" = some (some (.ref f6)))
    (l6 : K.lookup f6 = some ⟨oc6, od6, .func (PySem.W.fnOf "_law_silent" "_law_silent" (defArgs s__law_silent) (defBody s__law_silent) (defScope s__law_silent) .none kV6 dc6 pm6 an6 cd6 ct6), sl6⟩)
    (c6 : PySem.W.codeIn K cd6 "_law_silent" = true) (k6 : PySem.W.keepIn K (.ref f6) = true)
    {f7 : Addr} {oc7 kV7 dc7 pm7 cd7 ct7 : Value} {od7 an7 : Option Addr} {sl7 : Array (Option Value)}
    (a7 : PySem.W.nsIn K mainGlobals "_law_begun" = some (some (.ref f7)))
    (l7 : K.lookup f7 = some ⟨oc7, od7, .func (PySem.W.fnOf "_law_begun" "_law_begun" (defArgs s__law_begun) (defBody s__law_begun) (defScope s__law_begun) .none kV7 dc7 pm7 an7 cd7 ct7), sl7⟩)
    (c7 : PySem.W.codeIn K cd7 "_law_begun" = true) (k7 : PySem.W.keepIn K (.ref f7) = true)
    {f8 : Addr} {oc8 kV8 dc8 pm8 cd8 ct8 : Value} {od8 an8 : Option Addr} {sl8 : Array (Option Value)}
    (a8 : PySem.W.nsIn K mainGlobals "_law_are_words" = some (some (.ref f8)))
    (l8 : K.lookup f8 = some ⟨oc8, od8, .func (PySem.W.fnOf "_law_are_words" "_law_are_words" (defArgs s__law_are_words) (defBody s__law_are_words) (defScope s__law_are_words) .none kV8 dc8 pm8 an8 cd8 ct8), sl8⟩)
    (c8 : PySem.W.codeIn K cd8 "_law_are_words" = true) (k8 : PySem.W.keepIn K (.ref f8) = true)
    {f9 : Addr} {oc9 kV9 dc9 pm9 cd9 ct9 : Value} {od9 an9 : Option Addr} {sl9 : Array (Option Value)}
    (a9 : PySem.W.nsIn K mainGlobals "_law_chief_due" = some (some (.ref f9)))
    (l9 : K.lookup f9 = some ⟨oc9, od9, .func (PySem.W.fnOf "_law_chief_due" "_law_chief_due" (defArgs s__law_chief_due) (defBody s__law_chief_due) (defScope s__law_chief_due) .none kV9 dc9 pm9 an9 cd9 ct9), sl9⟩)
    (c9 : PySem.W.codeIn K cd9 "_law_chief_due" = true) (k9 : PySem.W.keepIn K (.ref f9) = true)
    {f10 : Addr} {oc10 kV10 dc10 pm10 cd10 ct10 : Value} {od10 an10 : Option Addr} {sl10 : Array (Option Value)}
    (a10 : PySem.W.nsIn K mainGlobals "_law_chief_hears" = some (some (.ref f10)))
    (l10 : K.lookup f10 = some ⟨oc10, od10, .func (PySem.W.fnOf "_law_chief_hears" "_law_chief_hears" (defArgs s__law_chief_hears) (defBody s__law_chief_hears) (defScope s__law_chief_hears) .none kV10 dc10 pm10 an10 cd10 ct10), sl10⟩)
    (c10 : PySem.W.codeIn K cd10 "_law_chief_hears" = true) (k10 : PySem.W.keepIn K (.ref f10) = true)
    {f11 : Addr} {oc11 kV11 dc11 pm11 cd11 ct11 : Value} {od11 an11 : Option Addr} {sl11 : Array (Option Value)}
    (a11 : PySem.W.nsIn K mainGlobals "_law_letters_due" = some (some (.ref f11)))
    (l11 : K.lookup f11 = some ⟨oc11, od11, .func (PySem.W.fnOf "_law_letters_due" "_law_letters_due" (defArgs s__law_letters_due) (defBody s__law_letters_due) (defScope s__law_letters_due) .none kV11 dc11 pm11 an11 cd11 ct11), sl11⟩)
    (c11 : PySem.W.codeIn K cd11 "_law_letters_due" = true) (k11 : PySem.W.keepIn K (.ref f11) = true)
    {f12 : Addr} {oc12 kV12 dc12 pm12 cd12 ct12 : Value} {od12 an12 : Option Addr} {sl12 : Array (Option Value)}
    (a12 : PySem.W.findIn K (.ref C_Chief) "silent" = some (some (.ref f12))) (i12 : PySem.W.isFn K (.ref f12) = true)
    (l12 : K.lookup f12 = some ⟨oc12, od12, .func (PySem.W.fnOf "silent" "Chief.silent" (defArgs s_Chief_silent) (defBody s_Chief_silent) (defScope s_Chief_silent) .none kV12 dc12 pm12 an12 cd12 ct12), sl12⟩)
    (c12 : PySem.W.codeIn K cd12 "Chief.silent" = true) (k12 : PySem.W.keepIn K (.ref f12) = true)
    {f13 : Addr} {oc13 kV13 dc13 pm13 cd13 ct13 : Value} {od13 an13 : Option Addr} {sl13 : Array (Option Value)}
    (a13 : PySem.W.findIn K (.ref C_Chief) "look_agreed" = some (some (.ref f13))) (i13 : PySem.W.isFn K (.ref f13) = true)
    (l13 : K.lookup f13 = some ⟨oc13, od13, .func (PySem.W.fnOf "look_agreed" "Chief.look_agreed" (defArgs s_Chief_look_agreed) (defBody s_Chief_look_agreed) (defScope s_Chief_look_agreed) .none kV13 dc13 pm13 an13 cd13 ct13), sl13⟩)
    (c13 : PySem.W.codeIn K cd13 "Chief.look_agreed" = true) (k13 : PySem.W.keepIn K (.ref f13) = true)
    {f14 : Addr} {oc14 kV14 dc14 pm14 cd14 ct14 : Value} {od14 an14 : Option Addr} {sl14 : Array (Option Value)}
    (a14 : PySem.W.findIn K (.ref C_Chief) "begin" = some (some (.ref f14))) (i14 : PySem.W.isFn K (.ref f14) = true)
    (l14 : K.lookup f14 = some ⟨oc14, od14, .func (PySem.W.fnOf "begin" "Chief.begin" (defArgs s_Chief_begin) (defBody s_Chief_begin) (defScope s_Chief_begin) .none kV14 dc14 pm14 an14 cd14 ct14), sl14⟩)
    (c14 : PySem.W.codeIn K cd14 "Chief.begin" = true) (k14 : PySem.W.keepIn K (.ref f14) = true)
    {f15 : Addr} {oc15 kV15 dc15 pm15 cd15 ct15 : Value} {od15 an15 : Option Addr} {sl15 : Array (Option Value)}
    (a15 : PySem.W.findIn K (.ref C_Chief) "deal" = some (some (.ref f15))) (i15 : PySem.W.isFn K (.ref f15) = true)
    (l15 : K.lookup f15 = some ⟨oc15, od15, .func (PySem.W.fnOf "deal" "Chief.deal" (defArgs s_Chief_deal) (defBody s_Chief_deal) (defScope s_Chief_deal) .none kV15 dc15 pm15 an15 cd15 ct15), sl15⟩)
    (c15 : PySem.W.codeIn K cd15 "Chief.deal" = true) (k15 : PySem.W.keepIn K (.ref f15) = true)
    {f16 : Addr} {oc16 kV16 dc16 pm16 cd16 ct16 : Value} {od16 an16 : Option Addr} {sl16 : Array (Option Value)}
    (a16 : PySem.W.findIn K (.ref C_Chief) "clear" = some (some (.ref f16))) (i16 : PySem.W.isFn K (.ref f16) = true)
    (l16 : K.lookup f16 = some ⟨oc16, od16, .func (PySem.W.fnOf "clear" "Chief.clear" (defArgs s_Chief_clear) (defBody s_Chief_clear) (defScope s_Chief_clear) .none kV16 dc16 pm16 an16 cd16 ct16), sl16⟩)
    (c16 : PySem.W.codeIn K cd16 "Chief.clear" = true) (k16 : PySem.W.keepIn K (.ref f16) = true)
    {f17 : Addr} {oc17 kV17 dc17 pm17 cd17 ct17 : Value} {od17 an17 : Option Addr} {sl17 : Array (Option Value)}
    (a17 : PySem.W.findIn K (.ref C_Chief) "ask" = some (some (.ref f17))) (i17 : PySem.W.isFn K (.ref f17) = true)
    (l17 : K.lookup f17 = some ⟨oc17, od17, .func (PySem.W.fnOf "ask" "Chief.ask" (defArgs s_Chief_ask) (defBody s_Chief_ask) (defScope s_Chief_ask) .none kV17 dc17 pm17 an17 cd17 ct17), sl17⟩)
    (c17 : PySem.W.codeIn K cd17 "Chief.ask" = true) (k17 : PySem.W.keepIn K (.ref f17) = true)
    {f18 : Addr} {oc18 kV18 dc18 pm18 cd18 ct18 : Value} {od18 an18 : Option Addr} {sl18 : Array (Option Value)}
    (a18 : PySem.W.nsIn K mainGlobals "_law_chief_does" = some (some (.ref f18)))
    (l18 : K.lookup f18 = some ⟨oc18, od18, .func (PySem.W.fnOf "_law_chief_does" "_law_chief_does" (defArgs s__law_chief_does) (defBody s__law_chief_does) (defScope s__law_chief_does) .none kV18 dc18 pm18 an18 cd18 ct18), sl18⟩)
    (c18 : PySem.W.codeIn K cd18 "_law_chief_does" = true) (k18 : PySem.W.keepIn K (.ref f18) = true)
    {f19 : Addr} {oc19 kV19 dc19 pm19 cd19 ct19 : Value} {od19 an19 : Option Addr} {sl19 : Array (Option Value)}
    (a19 : PySem.W.findIn K (.ref C_Chief) "letters" = some (some (.ref f19))) (i19 : PySem.W.isFn K (.ref f19) = true)
    (l19 : K.lookup f19 = some ⟨oc19, od19, .func (PySem.W.fnOf "letters" "Chief.letters" (defArgs s_Chief_letters) (defBody s_Chief_letters) (defScope s_Chief_letters) .none kV19 dc19 pm19 an19 cd19 ct19), sl19⟩)
    (c19 : PySem.W.codeIn K cd19 "Chief.letters" = true) (k19 : PySem.W.keepIn K (.ref f19) = true)
    {f20 : Addr} {oc20 kV20 dc20 pm20 cd20 ct20 : Value} {od20 an20 : Option Addr} {sl20 : Array (Option Value)}
    (a20 : PySem.W.findIn K (.ref C_Chief) "phase" = some (some (.ref f20))) (i20 : PySem.W.isFn K (.ref f20) = true)
    (l20 : K.lookup f20 = some ⟨oc20, od20, .func (PySem.W.fnOf "phase" "Chief.phase" (defArgs s_Chief_phase) (defBody s_Chief_phase) (defScope s_Chief_phase) .none kV20 dc20 pm20 an20 cd20 ct20), sl20⟩)
    (c20 : PySem.W.codeIn K cd20 "Chief.phase" = true) (k20 : PySem.W.keepIn K (.ref f20) = true)
    {f21 : Addr} {oc21 kV21 dc21 pm21 cd21 ct21 : Value} {od21 an21 : Option Addr} {sl21 : Array (Option Value)}
    (a21 : PySem.W.findIn K (.ref C_Chief) "agreed" = some (some (.ref f21))) (i21 : PySem.W.isFn K (.ref f21) = true)
    (l21 : K.lookup f21 = some ⟨oc21, od21, .func (PySem.W.fnOf "agreed" "Chief.agreed" (defArgs s_Chief_agreed) (defBody s_Chief_agreed) (defScope s_Chief_agreed) .none kV21 dc21 pm21 an21 cd21 ct21), sl21⟩)
    (c21 : PySem.W.codeIn K cd21 "Chief.agreed" = true) (k21 : PySem.W.keepIn K (.ref f21) = true)
    {f22 : Addr} {oc22 kV22 dc22 pm22 cd22 ct22 : Value} {od22 an22 : Option Addr} {sl22 : Array (Option Value)}
    (a22 : PySem.W.findIn K (.ref C_Chief) "word" = some (some (.ref f22))) (i22 : PySem.W.isFn K (.ref f22) = true)
    (l22 : K.lookup f22 = some ⟨oc22, od22, .func (PySem.W.fnOf "word" "Chief.word" (defArgs s_Chief_word) (defBody s_Chief_word) (defScope s_Chief_word) .none kV22 dc22 pm22 an22 cd22 ct22), sl22⟩)
    (c22 : PySem.W.codeIn K cd22 "Chief.word" = true) (k22 : PySem.W.keepIn K (.ref f22) = true)
    {f23 : Addr} {oc23 kV23 dc23 pm23 cd23 ct23 : Value} {od23 an23 : Option Addr} {sl23 : Array (Option Value)}
    (a23 : PySem.W.findIn K (.ref C_Chief) "turn" = some (some (.ref f23))) (i23 : PySem.W.isFn K (.ref f23) = true)
    (l23 : K.lookup f23 = some ⟨oc23, od23, .func (PySem.W.fnOf "turn" "Chief.turn" (defArgs s_Chief_turn) (defBody s_Chief_turn) (defScope s_Chief_turn) .none kV23 dc23 pm23 an23 cd23 ct23), sl23⟩)
    (c23 : PySem.W.codeIn K cd23 "Chief.turn" = true) (k23 : PySem.W.keepIn K (.ref f23) = true)
    {f24 : Addr} {oc24 kV24 dc24 pm24 cd24 ct24 : Value} {od24 an24 : Option Addr} {sl24 : Array (Option Value)}
    (a24 : PySem.W.nsIn K mainGlobals "_law_chief_stands" = some (some (.ref f24)))
    (l24 : K.lookup f24 = some ⟨oc24, od24, .func (PySem.W.fnOf "_law_chief_stands" "_law_chief_stands" (defArgs s__law_chief_stands) (defBody s__law_chief_stands) (defScope s__law_chief_stands) .none kV24 dc24 pm24 an24 cd24 ct24), sl24⟩)
    (c24 : PySem.W.codeIn K cd24 "_law_chief_stands" = true) (k24 : PySem.W.keepIn K (.ref f24) = true)
    {f25 : Addr} {oc25 kV25 dc25 pm25 cd25 ct25 : Value} {od25 an25 : Option Addr} {sl25 : Array (Option Value)}
    (a25 : PySem.W.nsIn K mainGlobals "_law_deed_of" = some (some (.ref f25)))
    (l25 : K.lookup f25 = some ⟨oc25, od25, .func (PySem.W.fnOf "_law_deed_of" "_law_deed_of" (defArgs s__law_deed_of) (defBody s__law_deed_of) (defScope s__law_deed_of) .none kV25 dc25 pm25 an25 cd25 ct25), sl25⟩)
    (c25 : PySem.W.codeIn K cd25 "_law_deed_of" = true) (k25 : PySem.W.keepIn K (.ref f25) = true)
    {f26 : Addr} {oc26 kV26 dc26 pm26 cd26 ct26 : Value} {od26 an26 : Option Addr} {sl26 : Array (Option Value)}
    (a26 : PySem.W.findIn K (.ref C_Chief) "hear" = some (some (.ref f26))) (i26 : PySem.W.isFn K (.ref f26) = true)
    (l26 : K.lookup f26 = some ⟨oc26, od26, .func (PySem.W.fnOf "hear" "Chief.hear" (defArgs s_Chief_hear) (defBody s_Chief_hear) (defScope s_Chief_hear) .none kV26 dc26 pm26 an26 cd26 ct26), sl26⟩)
    (c26 : PySem.W.codeIn K cd26 "Chief.hear" = true) (k26 : PySem.W.keepIn K (.ref f26) = true)
    {f27 : Addr} {oc27 kV27 dc27 pm27 cd27 ct27 : Value} {od27 an27 : Option Addr} {sl27 : Array (Option Value)}
    (a27 : PySem.W.nsIn K mainGlobals "_law_heard_right" = some (some (.ref f27)))
    (l27 : K.lookup f27 = some ⟨oc27, od27, .func (PySem.W.fnOf "_law_heard_right" "_law_heard_right" (defArgs s__law_heard_right) (defBody s__law_heard_right) (defScope s__law_heard_right) .none kV27 dc27 pm27 an27 cd27 ct27), sl27⟩)
    (c27 : PySem.W.codeIn K cd27 "_law_heard_right" = true) (k27 : PySem.W.keepIn K (.ref f27) = true)
    {f28 : Addr} {oc28 kV28 dc28 pm28 cd28 ct28 : Value} {od28 an28 : Option Addr} {sl28 : Array (Option Value)}
    (a28 : PySem.W.findIn K (.ref C_Chief) "__init__" = some (some (.ref f28))) (i28 : PySem.W.isFn K (.ref f28) = true)
    (l28 : K.lookup f28 = some ⟨oc28, od28, .func (PySem.W.fnOf "__init__" "Chief.__init__" (defArgs s_Chief___init__) (defBody s_Chief___init__) (defScope s_Chief___init__) .none kV28 dc28 pm28 an28 cd28 ct28), sl28⟩)
    (c28 : PySem.W.codeIn K cd28 "Chief.__init__" = true) (k28 : PySem.W.keepIn K (.ref f28) = true)
    {f29 : Addr} {oc29 kV29 dc29 pm29 cd29 ct29 : Value} {od29 an29 : Option Addr} {sl29 : Array (Option Value)}
    (a29 : PySem.W.nsIn K mainGlobals "law" = some (some (.ref f29)))
    (l29 : K.lookup f29 = some ⟨oc29, od29, .func (PySem.W.fnOf "law" "law" (defArgs s_law) (defBody s_law) (defScope s_law) .none kV29 dc29 pm29 an29 cd29 ct29), sl29⟩)
    (c29 : PySem.W.codeIn K cd29 "law" = true) (k29 : PySem.W.keepIn K (.ref f29) = true) : Tops K w mg :=
  ⟨⟨PySem.W.mg_none_of X G z0, PySem.W.mg_none_of X G z1, PySem.W.mg_none_of X G z2, PySem.W.mg_none_of X G z3, PySem.W.mg_none_of X G z4, PySem.W.mg_none_of X G z5, PySem.W.mg_none_of X G z6, PySem.W.mg_none_of X G z7, PySem.W.mg_none_of X G z8, PySem.W.mg_none_of X G z9, PySem.W.mg_none_of X G z10, PySem.W.mg_none_of X G z11, PySem.W.mg_none_of X G z12, ⟨t14, PySem.W.mg_of X G z14⟩, ⟨t15, PySem.W.mg_of X G z15⟩, ⟨t16, PySem.W.mg_of X G z16⟩, ⟨t17, PySem.W.mg_of X G z17⟩, ⟨t18, PySem.W.mg_of X G z18⟩, ⟨⟨_, _, _, PySem.W.mg_of X G z19, ⟨y19, x19, w19⟩, ⟨⟨⟨_, rfl⟩, _, rfl, _, _, _, u19_0, rfl, rfl, show 2 ≤ sizeLine by decide, (.cons ⟨_, rfl⟩ (.cons ⟨_, rfl⟩ .nil))⟩, ⟨⟨_, rfl⟩, _, rfl, _, _, _, u19_1, rfl, rfl, show 2 ≤ sizeLine by decide, (.cons ⟨_, rfl⟩ (.cons ⟨_, rfl⟩ .nil))⟩, trivial⟩⟩⟩, (fldTab_cons (PySem.W.mg_of X G aC_Chief) ⟨pg_Chief, hd_Chief, po_Chief, sa_Chief⟩ nf_Chief_at_turn fldTab_nil), (fldTab_cons (PySem.W.mg_of X G aC_Chief) ⟨pg_Chief, hd_Chief, po_Chief, sa_Chief⟩ nf_Chief_have_agreed fldTab_nil), (fldTab_cons (PySem.W.mg_of X G aC_Chief) ⟨pg_Chief, hd_Chief, po_Chief, sa_Chief⟩ nf_Chief_now fldTab_nil), (fldTab_cons (PySem.W.mg_of X G aC_Chief) ⟨pg_Chief, hd_Chief, po_Chief, sa_Chief⟩ nf_Chief_own fldTab_nil), (fldTab_cons (PySem.W.mg_of X G aC_Chief) ⟨pg_Chief, hd_Chief, po_Chief, sa_Chief⟩ nf_Chief_places fldTab_nil), (fldTab_cons (PySem.W.mg_of X G aC_Chief) ⟨pg_Chief, hd_Chief, po_Chief, sa_Chief⟩ nf_Chief_told fldTab_nil), ⟨⟨_, PySem.W.mg_of X G z27, _, _, _, y27, rfl, rfl, show 3 ≤ sizeLine by decide, (.cons ⟨_, rfl⟩ (.cons ⟨_, rfl⟩ (.cons ⟨_, rfl⟩ .nil)))⟩⟩, ⟨_, PySem.W.mg_of X G aC_NoWords, xfB_ok xb_NoWords, xn_NoWords_told⟩, ⟨_, PySem.W.mg_of X G aC_NotAgreed, xfB_ok xb_NotAgreed, xn_NotAgreed_missing⟩, ⟨_, PySem.W.mg_of X G aC_NotAgreed, xfB_ok xb_NotAgreed, xn_NotAgreed_now⟩, exTab_mk (PySem.W.mg_of X G aC_NoWords) (ext_cons (PySem.W.mg_of X G aC_NoWords) (xm_NoWords_NoWords.trans (by decide +kernel)) (ext_cons (PySem.W.mg_of X G aC_NotAgreed) (xm_NotAgreed_NoWords.trans (by decide +kernel)) ext_nil)), exTab_mk (PySem.W.mg_of X G aC_NotAgreed) (ext_cons (PySem.W.mg_of X G aC_NoWords) (xm_NoWords_NotAgreed.trans (by decide +kernel)) (ext_cons (PySem.W.mg_of X G aC_NotAgreed) (xm_NotAgreed_NotAgreed.trans (by decide +kernel)) ext_nil)), trivial⟩,
   topDef_mk X G a0 l0 c0 k0 fun _ _ _ _ _ _ us hl => match us, hl with | [_, _, _], _ => rfl,
   topDef_mk X G a1 l1 c1 k1 fun _ _ _ _ _ _ us hl => match us, hl with | [_, _], _ => rfl,
   topDef_mk X G a2 l2 c2 k2 fun _ _ _ _ _ _ us hl => match us, hl with | [_, _], _ => rfl,
   topDef_mk X G a3 l3 c3 k3 fun _ _ _ _ _ _ us hl => match us, hl with | [_, _], _ => rfl,
   topDef_mk X G a4 l4 c4 k4 fun _ _ _ _ _ _ us hl => match us, hl with | [_, _], _ => rfl,
   topDef_mk X G a5 l5 c5 k5 fun _ _ _ _ _ _ us hl => match us, hl with | [_], _ => rfl,
   topDef_mk X G a6 l6 c6 k6 fun _ _ _ _ _ _ us hl => match us, hl with | [_], _ => rfl,
   topDef_mk X G a7 l7 c7 k7 fun _ _ _ _ _ _ us hl => match us, hl with | [_, _, _, _], _ => rfl,
   topDef_mk X G a8 l8 c8 k8 fun _ _ _ _ _ _ us hl => match us, hl with | [_, _], _ => rfl,
   topDef_mk X G a9 l9 c9 k9 fun _ _ _ _ _ _ us hl => match us, hl with | [_, _], _ => rfl,
   topDef_mk X G a10 l10 c10 k10 fun _ _ _ _ _ _ us hl => match us, hl with | [_, _], _ => rfl,
   topDef_mk X G a11 l11 c11 k11 fun _ _ _ _ _ _ us hl => match us, hl with | [_], _ => rfl,
   ⟨_, _, _, PySem.W.mg_of X G aC_Chief, ⟨pg_Chief, hd_Chief, po_Chief, sa_Chief⟩, ⟨a12, i12, k12⟩, fun_mk (st := s_Chief_silent) l12 c12 k12, ((fun_mk (st := s_Chief_silent) l12 c12 k12).binds fun _ _ _ _ _ _ us hl => match us, hl with | [_], _ => rfl)⟩,
   ⟨_, _, _, PySem.W.mg_of X G aC_Chief, ⟨pg_Chief, hd_Chief, po_Chief, sa_Chief⟩, ⟨a13, i13, k13⟩, fun_mk (st := s_Chief_look_agreed) l13 c13 k13, ((fun_mk (st := s_Chief_look_agreed) l13 c13 k13).binds fun _ _ _ _ _ _ us hl => match us, hl with | [_, _], _ => rfl)⟩,
   ⟨_, _, _, PySem.W.mg_of X G aC_Chief, ⟨pg_Chief, hd_Chief, po_Chief, sa_Chief⟩, ⟨a14, i14, k14⟩, fun_mk (st := s_Chief_begin) l14 c14 k14, ((fun_mk (st := s_Chief_begin) l14 c14 k14).binds fun _ _ _ _ _ _ us hl => match us, hl with | [_, _, _], _ => rfl)⟩,
   ⟨_, _, _, PySem.W.mg_of X G aC_Chief, ⟨pg_Chief, hd_Chief, po_Chief, sa_Chief⟩, ⟨a15, i15, k15⟩, fun_mk (st := s_Chief_deal) l15 c15 k15, ((fun_mk (st := s_Chief_deal) l15 c15 k15).binds fun _ _ _ _ _ _ us hl => match us, hl with | [_, _], _ => rfl)⟩,
   ⟨_, _, _, PySem.W.mg_of X G aC_Chief, ⟨pg_Chief, hd_Chief, po_Chief, sa_Chief⟩, ⟨a16, i16, k16⟩, fun_mk (st := s_Chief_clear) l16 c16 k16, ((fun_mk (st := s_Chief_clear) l16 c16 k16).binds fun _ _ _ _ _ _ us hl => match us, hl with | [_], _ => rfl)⟩,
   ⟨_, _, _, PySem.W.mg_of X G aC_Chief, ⟨pg_Chief, hd_Chief, po_Chief, sa_Chief⟩, ⟨a17, i17, k17⟩, fun_mk (st := s_Chief_ask) l17 c17 k17, ((fun_mk (st := s_Chief_ask) l17 c17 k17).binds fun _ _ _ _ _ _ us hl => match us, hl with | [_], _ => rfl)⟩,
   topDef_mk X G a18 l18 c18 k18 fun _ _ _ _ _ _ us hl => match us, hl with | [_, _], _ => rfl,
   ⟨_, _, _, PySem.W.mg_of X G aC_Chief, ⟨pg_Chief, hd_Chief, po_Chief, sa_Chief⟩, ⟨a19, i19, k19⟩, fun_mk (st := s_Chief_letters) l19 c19 k19, ((fun_mk (st := s_Chief_letters) l19 c19 k19).binds fun _ _ _ _ _ _ us hl => match us, hl with | [_], _ => rfl)⟩,
   ⟨_, _, _, PySem.W.mg_of X G aC_Chief, ⟨pg_Chief, hd_Chief, po_Chief, sa_Chief⟩, ⟨a20, i20, k20⟩, fun_mk (st := s_Chief_phase) l20 c20 k20, ((fun_mk (st := s_Chief_phase) l20 c20 k20).binds fun _ _ _ _ _ _ us hl => match us, hl with | [_], _ => rfl)⟩,
   ⟨_, _, _, PySem.W.mg_of X G aC_Chief, ⟨pg_Chief, hd_Chief, po_Chief, sa_Chief⟩, ⟨a21, i21, k21⟩, fun_mk (st := s_Chief_agreed) l21 c21 k21, ((fun_mk (st := s_Chief_agreed) l21 c21 k21).binds fun _ _ _ _ _ _ us hl => match us, hl with | [_], _ => rfl)⟩,
   ⟨_, _, _, PySem.W.mg_of X G aC_Chief, ⟨pg_Chief, hd_Chief, po_Chief, sa_Chief⟩, ⟨a22, i22, k22⟩, fun_mk (st := s_Chief_word) l22 c22 k22, ((fun_mk (st := s_Chief_word) l22 c22 k22).binds fun _ _ _ _ _ _ us hl => match us, hl with | [_], _ => rfl)⟩,
   ⟨_, _, _, PySem.W.mg_of X G aC_Chief, ⟨pg_Chief, hd_Chief, po_Chief, sa_Chief⟩, ⟨a23, i23, k23⟩, fun_mk (st := s_Chief_turn) l23 c23 k23, ((fun_mk (st := s_Chief_turn) l23 c23 k23).binds fun _ _ _ _ _ _ us hl => match us, hl with | [_], _ => rfl)⟩,
   topDef_mk X G a24 l24 c24 k24 fun _ _ _ _ _ _ us hl => match us, hl with | [_, _], _ => rfl,
   topDef_mk X G a25 l25 c25 k25 fun _ _ _ _ _ _ us hl => match us, hl with | [_, _], _ => rfl,
   ⟨_, _, _, PySem.W.mg_of X G aC_Chief, ⟨pg_Chief, hd_Chief, po_Chief, sa_Chief⟩, ⟨a26, i26, k26⟩, fun_mk (st := s_Chief_hear) l26 c26 k26, ((fun_mk (st := s_Chief_hear) l26 c26 k26).binds fun _ _ _ _ _ _ us hl => match us, hl with | [_, _], _ => rfl)⟩,
   topDef_mk X G a27 l27 c27 k27 fun _ _ _ _ _ _ us hl => match us, hl with | [_, _, _], _ => rfl,
   ⟨_, _, _, PySem.W.mg_of X G aC_Chief, ⟨mk_Chief, a28, i28, kc_Chief⟩, fun_mk (st := s_Chief___init__) l28 c28 k28, ((fun_mk (st := s_Chief___init__) l28 c28 k28).binds fun _ _ _ _ _ _ us hl => match us, hl with | [_, _], _ => rfl)⟩,
   topDef_mk X G a29 l29 c29 k29 fun _ _ _ _ _ _ us hl => match us, hl with | [_], _ => rfl,
   ⟨_, _, _, PySem.W.mg_of X G aC_NoWords, ⟨⟨_, _, EV.xb_Value, xi_NoWords, xo_NoWords⟩, xs_NoWords, xfB_ok xb_NoWords, (fun f hf => by
      simp only [List.mem_cons, List.not_mem_nil, or_false] at hf
      rcases hf with rfl
      · exact xn_NoWords_told), xy_NoWords, xk_NoWords⟩, ax_NoWords, tx_NoWords, fun_mk (st := s_NoWords___init__) lx_NoWords cx_NoWords kx_NoWords, ((fun_mk (st := s_NoWords___init__) lx_NoWords cx_NoWords kx_NoWords).binds fun _ _ _ _ _ _ us hl => match us, hl with | [_, _], _ => rfl)⟩,
   ⟨_, _, _, PySem.W.mg_of X G aC_NotAgreed, ⟨⟨_, _, EV.xb_Runtime, xi_NotAgreed, xo_NotAgreed⟩, xs_NotAgreed, xfB_ok xb_NotAgreed, (fun f hf => by
      simp only [List.mem_cons, List.not_mem_nil, or_false] at hf
      rcases hf with rfl | rfl
      · exact xn_NotAgreed_now
      · exact xn_NotAgreed_missing), xy_NotAgreed, xk_NotAgreed⟩, ax_NotAgreed, tx_NotAgreed, fun_mk (st := s_NotAgreed___init__) lx_NotAgreed cx_NotAgreed kx_NotAgreed, ((fun_mk (st := s_NotAgreed___init__) lx_NotAgreed cx_NotAgreed kx_NotAgreed).binds fun _ _ _ _ _ _ us hl => match us, hl with | [_, _, _], _ => rfl)⟩⟩
end LAW

set_option maxRecDepth 100000
set_option autoImplicit false
set_option maxHeartbeats 4000000
set_option linter.all false
namespace LAW
open PySem EV L2 PyProof.Rows
variable {E : ErP} {Ee : ErS}
local macro_rules | `(tactic| walk_at "gdl") => `(tactic| first
  | with_reducible exact Gd.fitw gd_non (by decide) | with_reducible exact Gd.fitw gd_bl (by decide)
  | ((with_reducible refine Gd.fitw (gd_int ?h) ?c); (case h => omega); (case c => decide))
  | ((with_reducible refine Gd.fit (N := ?N) (n := ?n) (w := ?w) ?h ?a ?b ?c); (case h => assumption); (case a => decide); (case b => decide); (case c => decide))
  | ((with_reducible refine Gd.fitw (gd_str (w := 50) ?h ?hw) ?c); (case h => decide +kernel); (case hw => decide +kernel); (case c => decide)))
local macro_rules | `(tactic| walk_at "gd") => `(tactic| first
  | walk_at "gdl"
  | ((with_reducible refine Gd.tupP ?h ?q); (case h => decide); (case q => walk_at "gds")) | ((with_reducible refine Gd.lstP ?h ?q); (case h => decide); (case q => walk_at "gds")))
local macro_rules | `(tactic| walk_at "gds") => `(tactic| first
  | with_reducible exact Gds.nil
  | ((with_reducible refine Gds.consL ?h1 ?h3 ?h2); (case h1 => walk_at "gdl"); (case h3 => decide); (case h2 => walk_at "gds"))
  | ((with_reducible refine Gds.consH ?h1 ?h3 ?h2); (case h1 => walk_at "gd"); (case h3 => decide); (case h2 => walk_at "gds")))
local macro_rules | `(tactic| walk_at "shw") => `(tactic| ((with_reducible refine go_shw (N := 10 ^ 12) (n := 64) (w := 1000000) ?h (Nat.le_refl _) (Nat.le_refl _) (Nat.le_refl _) ?hq); (case h => walk_at "gd")))
local macro_rules | `(tactic| walk_at "same") => `(tactic| first
  | ((with_reducible refine go_neG ?h ?hq); (case h => walk_at "gd")) | ((with_reducible refine go_eqG ?h ?hq); (case h => walk_at "gd")))
local macro_rules | `(tactic| walk_at "len") => `(tactic| first
  | (simp only [List.length_cons, List.length_nil, Nat.reduceAdd, Nat.reduceLeDiff]; done)
  | (simp only [List.length_cons, List.length_nil, List.length_append, List.length_map]; omega) | omega)
local macro_rules | `(tactic| walk_at "cell") => `(tactic| first
  | assumption
  | ((with_reducible refine get_set (o := ?oo) ?hh); (case hh => walk_at "cell"))
  | exact UrnL.get ‹_› (by repeat' (first | with_reducible exact List.mem_cons_self | with_reducible refine List.mem_cons_of_mem _ ?_)))
local macro_rules | `(tactic| walk_at "lkf") => `(tactic| repeat (first | with_reducible exact lkF_nil | with_reducible exact lkF_hd | with_reducible refine lkF_tl (by decide +kernel) ?_))
local macro_rules | `(tactic| walk_at "tab") => `(tactic| repeat (first | with_reducible exact tab_hd | with_reducible refine tab_tl (by decide +kernel) ?_))
local macro_rules | `(tactic| walk_at "lkd") => `(tactic| repeat (first | with_reducible exact lkd_hd | with_reducible refine lkd_tl (by decide +kernel) ?_))
local macro_rules | `(tactic| walk_at "ndp") => `(tactic| first | with_reducible exact nd_hd | ((with_reducible refine nd_tl (r' := ?r2) ?hd ?hq); (case hd => decide +kernel); (case hq => walk_at "ndp")))
local macro_rules | `(tactic| walk_at "mem") => `(tactic| repeat (first | with_reducible exact List.mem_cons_self | with_reducible refine List.mem_cons_of_mem _ ?_))
local macro_rules | `(tactic| walk_at "evo") => `(tactic| first
  | ((with_reducible refine go_le1000 ?h ?hq); (case h => walk_at "len"))
  | ((with_reducible refine go_isiR (ds := ?ds) ?h ?hq); (case h => walk_at "cell")) | with_reducible refine go_par ?_ | with_reducible refine go_par2 ?_ | with_reducible refine go_vLock ?_ | ((with_reducible refine go_lockR (ds := ?ds) ?h ?hq); (case h => walk_at "cell"))
  | ((with_reducible refine go_addL ?h ?hq); (case h => walk_at "len")) | ((with_reducible refine go_addT ?h ?hq); (case h => walk_at "len"))
  | with_reducible refine go_enumL ?_ | with_reducible refine go_enumT ?_ | with_reducible refine go_zipL ?_ | with_reducible refine go_zipT ?_ | with_reducible refine go_revdL ?_ | with_reducible refine go_revdT ?_
  | ((with_reducible refine go_gTpK ?hl ?hq); (case hl => exact rfl)) | with_reducible refine go_inK ?_
  | with_reducible refine go_par3 ?_ | with_reducible refine go_par3e ?_ | ((with_reducible refine go_ext (ds := ?ds) ?h ?hq); (case h => exact rfl)) | ((with_reducible refine go_ext1 ?h ?hq); (case h => walk_at "len"))
  | with_reducible refine go_vMeth ?_ | ((with_reducible refine go_mlen ?h ?hq); (case h => exact rfl))
  | with_reducible refine lcp_nil ?_ | ((with_reducible refine lcp_consY (bs := ?bs) ?hb ?hq); (case hb => exact rfl)) | ((with_reducible refine lcp_cons (bs := ?bs) ?hb ?hq); (case hb => exact rfl))
  | ((with_reducible refine go_methD (C := ?C) (fs := ?fs) (ps := ?ps) (F := ?F) ?h ?hl ?ht ?hq); (case h => walk_at "cell"); (case hl => walk_at "lkf"); (case ht => walk_at "tab"))
  | ((with_reducible refine go_fld (C := ?C) (fs := ?fs) (d := ?d) ?h ?hm ?hl ?hq); (case h => walk_at "cell"); (case hm => walk_at "mem"); (case hl => walk_at "lkf"))
  | with_reducible refine go_gFld ?_ | with_reducible refine ns_hd ?_ | with_reducible refine ns_tl (by decide +kernel) ?_ | with_reducible refine ns_nil ?_
  | ((with_reducible refine go_setF (C := ?C) (fs := ?fs) ?h ?hm ?hz ?hq); (case h => walk_at "cell"); (case hm => walk_at "mem"); (case hz => walk_at "lt"))
  | ((with_reducible refine go_gTp ?hl ?hq); (case hl => exact rfl)) | with_reducible refine go_gsC ?_ | with_reducible refine go_gsN ?_ | with_reducible refine go_gN ?_
  | with_reducible refine go_fldA ?_
  | ((with_reducible refine go_augF (C := ?C) (fs := ?fs) (i := ?i) ?h ?hm ?hl ?hz ?hq); (case h => walk_at "cell"); (case hm => walk_at "mem"); (case hl => walk_at "lkf"); (case hz => walk_at "lt"))
  | with_reducible refine go_vBm ?_ | ((with_reducible refine go_isLR (ds := ?ds) ?h ?hq); (case h => walk_at "cell"))
  | ((with_reducible refine go_appD (ds := ?ds) ?h ?hz ?hq); (case h => walk_at "cell"); try (case hz => walk_at "lt"))
  | with_reducible refine go_vBd ?_ | ((with_reducible refine go_isDR (kvs := ?kvs) (k := ?k) ?h ?hq); (case h => walk_at "cell"))
  | with_reducible refine go_dnew ?_ | with_reducible refine go_toRefD ?_
  | with_reducible refine go_isN1 ?_ | with_reducible refine go_isN2 ?_ | with_reducible refine go_isN3 ?_ | with_reducible refine go_isN4 ?_ | with_reducible refine go_isN5 ?_ | with_reducible refine go_isN6 ?_
  | with_reducible refine go_isntN1 ?_ | with_reducible refine go_isntN2 ?_ | with_reducible refine go_isntN3 ?_ | with_reducible refine go_isntN4 ?_ | with_reducible refine go_isntN5 ?_ | with_reducible refine go_isntN6 ?_
  | ((with_reducible refine go_lenR (ds := ?ds) ?h ?hq); (case h => walk_at "cell"))
  | ((with_reducible refine go_lenRD (kvs := ?kvs) ?h ?hq); (case h => walk_at "cell"))
  | ((with_reducible refine go_tupR (ds := ?ds) ?h ?hq); (case h => walk_at "cell")) | ((with_reducible refine go_listR (ds := ?ds) ?h ?hq); (case h => walk_at "cell"))
  | ((with_reducible refine go_ixS (t := ?tt) (kvs := ?kvs) (d := ?d) ?h ?hl ?hq); (case h => walk_at "cell"); (case hl => walk_at "lkd"))
  | ((with_reducible refine go_setRS (kvs := ?kvs) (kvs' := ?kv2) ?h ?hz ?he ?hq); (case h => walk_at "cell"); (case hz => walk_at "lt"); (case he => walk_at "ndp"))
  | ((with_reducible refine go_disp ?hq)) | ((with_reducible refine go_ds (kvs := ?kvs) ?l ?e ?hq); (case l => exact rfl); (case e => (simp only [zipS_cons, zipS_nil]; exact rfl)))
  | ((with_reducible refine go_ixR (ds := ?ds) (d := ?d) ?h ?hi ?hq); (case h => walk_at "cell"); (case hi => exact rfl))
  | ((with_reducible refine go_setRL (ds := ?ds) (k := ?k) ?h ?hi ?hq); (case h => walk_at "cell"); (case hi => exact rfl))
  | fail)
local macro_rules | `(tactic| walk_at "lt") => `(tactic| first
  | (simp only [List.length_cons, List.length_nil, Nat.reduceAdd, Nat.reduceLTLE, Nat.reduceLeDiff]; done) | walk_at "len")
local macro_rules | `(tactic| walk_at "ev1b") => `(tactic| first
  | walk_at "ev0"
  | with_reducible refine go_seq ?_ | with_reducible refine go_c ?_ | with_reducible refine go_v2 ?_ | with_reducible refine go_vCons ?_ | with_reducible refine go_vNil ?_ | with_reducible refine go_vA ?_
  | ((with_reducible refine go_name (d := ?d) ?hh ?hq); (case hh => exact rfl))
  | with_reducible refine go_set ?_ | with_reducible refine go_if ?_ | with_reducible refine go_vB ?_ | with_reducible refine go_ret ?_ | with_reducible refine go_bl ?_ | with_reducible refine go_in ?_ | with_reducible refine go_in2 ?_
  | with_reducible refine go_add ?_ | with_reducible refine go_sub ?_ | with_reducible refine go_neg ?_
  | with_reducible refine go_lt ?_ | with_reducible refine go_le ?_ | with_reducible refine go_gt ?_ | with_reducible refine go_ge ?_ | with_reducible refine go_eqI ?_ | with_reducible refine go_neI ?_ | with_reducible refine go_eqS ?_ | with_reducible refine go_neS ?_ | with_reducible refine go_isB ?_ | with_reducible refine go_isntB ?_
  | with_reducible refine go_vNot ?_ | with_reducible refine go_vAnd ?_ | with_reducible refine go_vOr ?_ | with_reducible refine go_vAndV ?_ | with_reducible refine go_vOrV ?_ | with_reducible refine go_vNotV ?_ | with_reducible refine go_vIf ?_ | with_reducible refine go_chain ?_
  | with_reducible refine go_vFrz ?_ | with_reducible refine go_vRef ?_ | with_reducible refine go_vSl ?_ | with_reducible refine go_frz ?_ | with_reducible refine go_frz2 ?_ | with_reducible refine go_toRef ?_
  | ((with_reducible refine go_mkTup ?hn ?hq); (case hn => walk_at "len"))
  | ((with_reducible refine go_mkLst ?hn ?hq); (case hn => walk_at "len"))
  | with_reducible refine go_setS ?_ | with_reducible refine go_asg ?_ | ((with_reducible refine go_pat (bs := ?bs) ?hh ?hq); (case hh => exact rfl)) | with_reducible refine go_subR ?_
  | with_reducible refine go_nil ?_ | with_reducible refine go_retN ?_ | with_reducible refine go_expr ?_ | with_reducible refine go_v1 ?_ | with_reducible refine go_for ?_
  | ((with_reducible refine go_appN (ds := ?ds) ?hh ?hn ?hq); (case hh => exact rfl); try (case hn => (first | (simp only [List.length_cons, List.length_nil, Nat.reduceAdd, Nat.reduceLTLE, Nat.reduceLeDiff]; done) | walk_at "len"))) | ((with_reducible refine go_ixO (ds := ?ds) ?hh ?hq); (case hh => exact rfl)) | ((with_reducible refine go_lenO (ds := ?ds) ?hh ?hq); (case hh => exact rfl))
  | ((with_reducible refine go_frzO (ds := ?ds) ?hh ?hq); (case hh => exact rfl)) | ((with_reducible refine go_frzV (d := ?d) ?hh ?hq); (case hh => exact rfl))
  | with_reducible refine go_seqL ?_ | with_reducible refine go_seqT ?_ | with_reducible refine go_abs ?_ | with_reducible refine go_max2 ?_ | with_reducible refine go_min2 ?_ | with_reducible refine go_intI ?_ | with_reducible refine go_intB ?_
  | with_reducible refine go_lenL ?_ | with_reducible refine go_lenT ?_ | with_reducible refine go_lenC ?_ | with_reducible refine go_listL ?_ | with_reducible refine go_listT ?_ | with_reducible refine go_tupL ?_ | with_reducible refine go_tupT ?_
  | ((with_reducible refine go_isiT (a := ?a) ?hh ?hT ?hb ?hq); (case hh => exact rfl); (case hT => decide); (case hb => decide +kernel)) | ((with_reducible refine go_isiF (a := ?a) ?hh ?hT ?hb ?hq); (case hh => exact rfl); (case hT => decide); (case hb => decide +kernel))
  | ((with_reducible refine go_isi2T (a := ?a) ?hh ?hT ?hb ?hq); (case hh => exact rfl); (case hT => decide); (case hb => decide +kernel)) | ((with_reducible refine go_isi2F (a := ?a) ?hh ?hT ?hb ?hq); (case hh => exact rfl); (case hT => decide); (case hb => decide +kernel))
  | with_reducible refine go_revL ?_ | with_reducible refine go_revT ?_ | with_reducible refine go_noP ?_ | with_reducible refine go_soP ?_ | with_reducible refine go_slice ?_
  | ((with_reducible refine go_ix (d := ?d) ?hh ?hq); (case hh => first | assumption | exact rfl))
  | ((with_reducible refine go_mod ?hn ?hq); try (case hn => first | decide | omega)) | ((with_reducible refine go_fdiv ?hn ?hm ?hq); try (case hn => first | decide | omega); try (case hm => first | decide | assumption | exact lg1 (by omega)))
  | with_reducible refine go_mul9 ?_ | ((with_reducible refine go_mul ?hn ?hq); try (case hn => first | decide | assumption | (exact lg2 (by omega) (by omega)))) | with_reducible refine go_pow8 ?_ | with_reducible refine go_mul9 ?_ | ((with_reducible refine go_pow ?hn ?hm ?hq); try (case hn => decide); try (case hm => first | decide | assumption))
  | with_reducible refine go_fn1 ?_ | with_reducible refine go_fn2 ?_ | with_reducible refine go_fn3 ?_ | with_reducible refine go_fn4 ?_ | with_reducible refine go_fn5 ?_ | with_reducible refine go_fn6 ?_
  | ((with_reducible refine go_addSL ?hn ?hq); (case hn => first | (simp only [List.length_cons, List.length_nil, List.length_append]; omega) | omega))
  | ((with_reducible refine go_kdIx (f := ?f) ?hh ?hq); (case hh => exact rfl)) | with_reducible refine go_kdIn ?_
  | ((with_reducible refine go_callL (y := ?y) (ps := ?ps) (F := ?F) ?hh ?ht ?hq); (case hh => exact rfl); (case ht => repeat (first | with_reducible exact tab_hd | with_reducible refine tab_tl (by decide +kernel) ?_)))
  | ((with_reducible refine go_lenEq ?hh ?hq); (case hh => exact rfl))
  | ((with_reducible refine go_star (ds := ?ds) (bs := ?bs) ?hd ?hb ?hh ?hq); (case hd => exact rfl); (case hb => (simp only [List.length_cons, List.length_nil]; omega)); (case hh => exact rfl))
  | ((with_reducible refine go_lrng2 ?hn ?hq); (case hn => omega)) | ((with_reducible refine go_lrng1 ?hn ?hq); (case hn => omega))
  | ((with_reducible refine go_rep ?h1 ?h2 ?h3 ?hq); (case h1 => simp); (case h2 => omega); (case h3 => (simp only [List.length_cons, List.length_nil]; omega)))
  | with_reducible refine go_slT ?_ | with_reducible refine go_slL ?_ | with_reducible refine go_addCT (by omega) ?_ | with_reducible refine go_addCL (by omega) ?_
  | with_reducible refine go_tt ?_ | with_reducible refine go_ff ?_ | with_reducible refine go_ntt ?_ | with_reducible refine go_nff ?_
  | ((with_reducible refine go_dt ?hp ?hq); (case hp => first | (with_reducible rfl) | omega | decide | decide +kernel)) | ((with_reducible refine go_df ?hp ?hq); (case hp => first | (with_reducible rfl) | omega | decide | decide +kernel)) | with_reducible refine go_d (fun hc => ?_) (fun hc => ?_)
  | ((with_reducible refine go_ndt ?hp ?hq); (case hp => first | (with_reducible rfl) | omega | decide | decide +kernel)) | ((with_reducible refine go_ndf ?hp ?hq); (case hp => first | (with_reducible rfl) | omega | decide | decide +kernel)) | with_reducible refine go_nd (fun hc => ?_) (fun hc => ?_)
  | (with_reducible refine And.intro (fun hc => ?_) (fun hc => ?_))
  | walk_at "ev2")
local macro_rules | `(tactic| walk_at "nm") => `(tactic| ((with_reducible refine go_nm (env' := ?en) ?hh ?hq); (case hh => first | (dsimp only [List.set, bindE, setAll, List.foldl, List.map, List.cons_append, List.nil_append, List.replicate, wipeE]; exact rfl) | exact rfl)))
local macro_rules | `(tactic| walk_at "ev1") => `(tactic| first | walk_at "nm" | walk_at "ev1b")
local macro_rules | `(tactic| walk_at "ev") => `(tactic| repeat' walk_at "ev1")
local macro_rules | `(tactic| walk_at "evs") => `(tactic| ((try walk_at "nm"); repeat' walk_at "ev1b"))

/-- the urn at n, drawn from B times at most; the objects L stand besides -/
def UrnL (L : List (Nat × SObj)) (B : Nat) (st : Store) (n : Nat) : Prop := (∃ a b c : Int, st[n]? = some (.cell (.ol [.int a, .int b, .int c])) ∧ 0 ≤ a ∧ 0 ≤ b ∧ b < 2 ^ 64 ∧ 0 ≤ c ∧ c ≤ B) ∧ (∀ q ∈ L, st[q.1]? = some q.2) ∧ (n :: L.map (·.1)).Nodup
abbrev UrnAt (B : Nat) (st : Store) (n : Nat) : Prop := UrnL [] B st n
theorem at_ref {st : Store} {n : Nat} {ds : List D} (h : st[n]? = some (.cell (.ol ds))) (i : Int) : atD st (.ref n) i = atI ds i := by
  show (match st[n]? with | some (.cell (.ol ds)) => atI ds i | _ => none) = _
  rw [h]
theorem set_ref {st : Store} {n : Nat} {ds ds' : List D} (h : st[n]? = some (.cell (.ol ds))) {i : Int} {j : Nat} {d : D} (hj : ixN ds.length i = some j) (hd : ds.set j d = ds') : setR (.ref n) (.int i) d st = some (st.set n (.cell (.ol ds'))) := by
  subst hd
  unfold setR
  simp only [h, hj]
theorem at_mem {ds : List D} {i : Int} (h0 : 0 ≤ i) (h1 : i < ds.length) : ∃ d, atI ds i = some d ∧ d ∈ ds := by
  have hi : i.toNat < ds.length := by omega
  refine ⟨ds[i.toNat], ?_, List.getElem_mem hi⟩
  unfold atI ixN
  rw [if_pos h0, if_pos h1]
  show ds[i.toNat]? = _
  rw [List.getElem?_eq_getElem hi]
theorem get_set {st : Store} {n : Nat} {o o' : SObj} (h : st[n]? = some o) : (st.set n o')[n]? = some o' := by
  rw [List.getElem?_set_self (List.getElem?_eq_some_iff.mp h).1]
theorem nodup_sub {n : Nat} {L M : List (Nat × SObj)} (nd : (n :: L.map (·.1)).Nodup) (h : List.Sublist M L) : (n :: M.map (·.1)).Nodup := List.Sublist.nodup (List.Sublist.cons_cons n (h.map _)) nd
/-- a thing of the row that isn't the urn is put anew -/
theorem urn_keep {L : List (Nat × SObj)} {st : Store} {n : Nat} {o : SObj} (h : ∀ q ∈ L, st[q.1]? = some q.2) (nd : (n :: L.map (·.1)).Nodup) : ∀ q ∈ L, (st.set n o)[q.1]? = some q.2 := fun q hq => by
  have hne : n ≠ q.1 := fun e => (List.nodup_cons.mp nd).1 (by rw [e]; exact List.mem_map_of_mem hq)
  rw [List.getElem?_set_ne hne]
  exact h q hq
theorem draw {L : List (Nat × SObj)} {B n : Nat} {w : Int} {st : Store} {P : D → Store → Prop} (h : UrnL L B st n) (hB : B ≤ 1000000) (h1 : 1 ≤ w) (h2 : w < 2 ^ 40)
    (k : ∀ r st', 0 ≤ r → r < w → UrnL L (B + 1) st' n → st'.length = st.length → P (.int r) st') : (F__law_draw [.ref n, .int w] st).holds E P := by
  obtain ⟨⟨a, b, c, hst, ha, hb, hb2, hc, hc2⟩, hL, nd⟩ := h
  have g0 := (at_ref hst 0).trans (show _ = some (D.int a) from rfl)
  have g1 := (at_ref hst 1).trans (show _ = some (D.int b) from rfl)
  have g2 := (at_ref hst 2).trans (show _ = some (D.int c) from rfl)
  have hw : w.natAbs.log2 < 9000 := by
    have := log_lt (a := w) (k := 40) (by decide) (by omega)
    omega
  unfold F__law_draw
  refine go_fn rfl ?_
  unfold B__law_draw
  walk_at "ev"
  · rename_i hc0
    refine ⟨_, set_ref (ds' := [.int (a / w), .int b, .int c]) hst rfl rfl, ?_⟩
    walk_at "ev"
    refine k _ _ (Int.emod_nonneg _ (by omega)) (Int.emod_lt_of_pos _ (by omega)) ⟨⟨a / w, b, c, get_set hst, ?_, hb, hb2, hc, by omega⟩, urn_keep hL nd, nd⟩ (by simp)
    exact Int.ediv_nonneg ha (by omega)
  · have g3 := get_set (o' := .cell (.ol [.int a, .int b, .int (c + 1)])) hst
    refine ⟨_, set_ref (ds' := [.int a, .int b, .int (c + 1)]) hst rfl rfl, ?_⟩
    have hL2 := urn_keep (o := .cell (.ol [.int a, .int b, .int (c + 1)])) hL nd
    generalize hs2 : st.set n (.cell (.ol [.int a, .int b, .int (c + 1)])) = st2 at g3 hL2
    have g0 := (at_ref g3 0).trans (show _ = some (D.int a) from rfl)
    have g1 := (at_ref g3 1).trans (show _ = some (D.int b) from rfl)
    have g2 := (at_ref g3 2).trans (show _ = some (D.int (c + 1)) from rfl)
    have prime : ∀ x : Int, ∃ p, atD st2 (.tup [.int 2147483647, .int 2147483629, .int 2147483587, .int 2147483579, .int 2147483563, .int 2147483549, .int 2147483543]) (x % 7) = some (.int p) ∧ 0 < p ∧ p < 2 ^ 31 := by
      intro x
      obtain ⟨d, h1, h2⟩ := at_mem (ds := [.int 2147483647, .int 2147483629, .int 2147483587, .int 2147483579, .int 2147483563, .int 2147483549, .int 2147483543]) (i := x % 7) (by omega) (by show x % 7 < 7; omega)
      simp only [List.mem_cons, List.not_mem_nil, or_false] at h2
      rcases h2 with rfl | rfl | rfl | rfl | rfl | rfl | rfl <;> exact ⟨_, h1, by decide, by decide⟩
    obtain ⟨p, p1, p2, p3⟩ := prime (c + 1)
    obtain ⟨q, q1, q2, q3⟩ := prime (c + 1 + 3)
    have c1 : (c + 1).natAbs.log2 < 40 := log_lt (by decide) (by omega)
    walk_at "ev"
    · have b1 : (b * (2 * (c + 1) + 1)).natAbs < 2 ^ (64 + 40) := wide_lt (by omega) (by omega)
      have b2 : (6007 * (c + 1) * (c + 1)).natAbs < 2 ^ (40 + 40) := wide_lt (by omega) (by omega)
      have b3 : (b * (2 * (c + 1) + 1) + 6007 * (c + 1) * (c + 1) + 53).natAbs < 2 ^ 110 := by
        generalize b * (2 * (c + 1) + 1) = x at b1 ⊢
        generalize 6007 * (c + 1) * (c + 1) = y at b2 ⊢
        omega
      have b4 := log_lt (by decide) b3
      have b5 : Builtin.Int.intBits (b * (2 * (c + 1) + 1) + 6007 * (c + 1) * (c + 1) + 53) ≤ 111 := by
        unfold Builtin.Int.intBits
        split <;> omega
      omega
    · generalize (b * (2 * (c + 1) + 1) + 6007 * (c + 1) * (c + 1) + 53) ^ Int.toNat 3 = x
      have m1 := Int.emod_nonneg x (show p ≠ 0 by omega)
      have m2 := Int.emod_lt_of_pos x p2
      have e1 : (x % p).natAbs.log2 < 64 := log_lt (by decide) (by omega)
      have e2 : (x % p / 8191 + (c + 1)).natAbs.log2 < 64 := log_lt (by decide) (by omega)
      omega
    · refine k _ _ (Int.emod_nonneg _ (by omega)) (Int.emod_lt_of_pos _ (by omega)) ⟨⟨a, b, c + 1, g3, ha, hb, hb2, by omega, by omega⟩, hL2, nd⟩ ?_
      rw [← hs2]
      simp
theorem urnL {L : List (Nat × SObj)} {ns : List Int} {s : Nat} {st : Store} {P : D → Store → Prop} (hL : ∀ q ∈ L, st[q.1]? = some q.2) (nd : (L.map (·.1)).Nodup) (hs : s ≤ 1000)
    (k : ∀ st', UrnL L 0 st' st.length → st'.length = st.length + 1 → P (.ref st.length) st') : (F__law_urn [.scr ns, .int (s : Int)] st).holds E P := by
  have c1 : ((s : Int)).natAbs.log2 < 40 := log_lt (by decide) (by omega)
  have c2 : (97 * (s : Int)).natAbs.log2 < 40 := log_lt (by decide) (by omega)
  have sq : 0 ≤ 97 * (s : Int) * s ∧ 97 * (s : Int) * s ≤ 97000000 := by
    have : (s : Int) * s ≤ 1000 * 1000 := Int.mul_le_mul (by omega) (by omega) (by omega) (by omega)
    have h0 : 0 ≤ (s : Int) * s := Int.mul_nonneg (by omega) (by omega)
    rw [Int.mul_assoc]
    omega
  have fin : ∀ (g : Int) (x : Int), 0 ≤ g → P (D.ref (List.length st)) (st ++ [SObj.cell (Slot.ol [D.int g, D.int (x % 1000000000000000003 + 97 * (s : Int) * s + 31 * s + 1), D.int 0])]) := by
    intro g x hg
    have m1 := Int.emod_nonneg x (show (1000000000000000003 : Int) ≠ 0 by omega)
    have m2 := Int.emod_lt_of_pos x (show (0 : Int) < 1000000000000000003 by omega)
    have lt : ∀ q ∈ L, q.1 < st.length := fun q hq => (List.getElem?_eq_some_iff.mp (hL q hq)).1
    refine k _ ⟨⟨_, _, _, by rw [List.getElem?_append_right (Nat.le_refl _), Nat.sub_self]; rfl, hg, ?_, ?_, by omega, by omega⟩, fun q hq => by rw [List.getElem?_append_left (lt q hq)]; exact hL q hq, List.nodup_cons.mpr ⟨fun h => ?_, nd⟩⟩ (by simp)
    · omega
    · omega
    · obtain ⟨q, hq, e⟩ := List.mem_map.mp h
      have := lt q hq
      omega
  have lgs : ∀ x : Int, x.natAbs < 2 ^ 100 → x.natAbs.log2 < 100 := fun x h => log_lt (by decide) h
  have ab : ∀ x : Int, 0 ≤ (if x < 0 then -x else x) := by intro x; split <;> omega
  unfold F__law_urn
  refine go_fn rfl ?_
  unfold B__law_urn
  walk_at "ev"
  · rename_i hc
    have hl : (s : Int) < ns.length := hc
    have hx : atD st (.scr ns) s = some (.int (ns[s]'(by omega))) := by
      show (atI ns (s : Int)).map D.int = _
      unfold atI ixN
      rw [if_pos (by omega), if_pos hl]
      show (ns[s]?).map D.int = _
      rw [List.getElem?_eq_getElem (by omega)]
      rfl
    revert hx
    generalize ns[s]'(by omega) = x
    intro hx
    walk_at "ev"
    · exact fin 0 x (by omega)
    · exact fin _ x (ab x)
  · exact fin 0 0 (by omega)
theorem urn {ns : List Int} {s : Nat} {st : Store} {P : D → Store → Prop} (hs : s ≤ 1000) (k : ∀ st' n, UrnAt 0 st' n → P (.ref n) st') : (F__law_urn [.scr ns, .int (s : Int)] st).holds E P :=
  urnL (L := []) (fun _ h => nomatch h) List.nodup_nil hs fun st' h _ => k st' _ h
section
variable {L : List (Nat × SObj)} {B B' n : Nat} {st : Store} {o o' : SObj} {a : Nat}
theorem UrnL.le (h : UrnL L B st n) (hb : B ≤ B') : UrnL L B' st n := by
  obtain ⟨⟨a, b, c, h1, h2, h3, h4, h5, h6⟩, hL, nd⟩ := h
  exact ⟨⟨a, b, c, h1, h2, h3, h4, h5, by omega⟩, hL, nd⟩
theorem UrnAt.le (h : UrnAt B st n) (hb : B ≤ B') : UrnAt B' st n := UrnL.le h hb
theorem UrnL.get (h : UrnL L B st n) (hm : (a, o) ∈ L) : st[a]? = some o := h.2.1 _ hm
theorem UrnL.lt (h : UrnL L B st n) : n < st.length := by
  obtain ⟨⟨a, b, c, h1, _⟩, _⟩ := h
  exact (List.getElem?_eq_some_iff.mp h1).1
theorem UrnL.ltm (h : UrnL L B st n) (hm : (a, o) ∈ L) : a < st.length := (List.getElem?_eq_some_iff.mp (h.get hm)).1
/-- a new object -/
theorem UrnL.push (h : UrnL L B st n) : UrnL ((st.length, o) :: L) B (st ++ [o]) n := by
  have hn := h.lt
  have hlt : ∀ q ∈ L, q.1 < st.length := fun q hq => (List.getElem?_eq_some_iff.mp (h.2.1 q hq)).1
  obtain ⟨⟨a, b, c, h1, h2⟩, hL, nd⟩ := h
  refine ⟨⟨a, b, c, by rw [List.getElem?_append_left hn]; exact h1, h2⟩, fun q hq => ?_, ?_⟩
  · rcases List.mem_cons.mp hq with rfl | hq
    · show (st ++ [o])[st.length]? = some o
      rw [List.getElem?_append_right (Nat.le_refl _), Nat.sub_self]; rfl
    · rw [List.getElem?_append_left (hlt q hq)]; exact hL q hq
  · obtain ⟨n1, n2⟩ := List.nodup_cons.mp nd
    rw [List.map_cons]
    refine List.nodup_cons.mpr ⟨fun z => ?_, List.nodup_cons.mpr ⟨fun z => ?_, n2⟩⟩
    · rcases List.mem_cons.mp z with z | z
      · have z : n = st.length := z
        omega
      · exact n1 z
    · obtain ⟨q, hq, e⟩ := List.mem_map.mp z
      have := hlt q hq
      omega
/-- an object is changed -/
theorem UrnL.put {i : Nat} (h : UrnL L B st n) (hi : L[i]? = some (a, o)) : UrnL (L.set i (a, o')) B (st.set a o') n := by
  have hm : (a, o) ∈ L := List.mem_of_getElem? hi
  have ha := h.ltm hm
  obtain ⟨⟨x, y, z, h1, h2⟩, hL, nd⟩ := h
  obtain ⟨n1, n2⟩ := List.nodup_cons.mp nd
  have hne : a ≠ n := fun e => n1 (by rw [← e]; exact List.mem_map_of_mem (f := Prod.fst) hm)
  have keys : (L.set i (a, o')).map (·.1) = L.map (·.1) := by
    rw [List.map_set]
    obtain ⟨hl, e⟩ := List.getElem?_eq_some_iff.mp hi
    have : a = (L.map (·.1))[i]'(by rw [List.length_map]; exact hl) := by rw [List.getElem_map, e]
    show (L.map (·.1)).set i a = _
    conv => lhs; rw [this]
    exact List.set_getElem_self _
  refine ⟨⟨x, y, z, by rw [List.getElem?_set_ne hne]; exact h1, h2⟩, fun q hq => ?_, by rw [keys]; exact nd⟩
  obtain ⟨j, hj⟩ := List.getElem?_of_mem hq
  by_cases e : j = i
  · subst e
    rw [List.getElem?_set_self (List.getElem?_eq_some_iff.mp hi).1] at hj
    cases hj
    exact List.getElem?_set_self ha
  · rw [List.getElem?_set_ne (Ne.symm e)] at hj
    have hne2 : a ≠ q.1 := fun z => by
      have k1 : (L.map (·.1))[i]? = some a := by rw [List.getElem?_map, hi]; rfl
      have k2 : (L.map (·.1))[j]? = some a := by rw [List.getElem?_map, hj, z]; rfl
      obtain ⟨l1, e1⟩ := List.getElem?_eq_some_iff.mp k1
      obtain ⟨l2, e2⟩ := List.getElem?_eq_some_iff.mp k2
      exact e ((List.getElem_inj n2).mp (e2.trans e1.symm))
    rw [List.getElem?_set_ne hne2]
    exact hL q (List.mem_of_getElem? hj)
/-- some objects are forgotten -/
theorem UrnL.sub {M : List (Nat × SObj)} (h : UrnL L B st n) (hs : List.Sublist M L) : UrnL M B st n := ⟨h.1, fun q hq => h.2.1 q (hs.subset hq), nodup_sub h.2.2 hs⟩
theorem toRefU {P : D → Store → Prop} {ds : List D} (h : UrnL L B st n) (k : ∀ p st', UrnL ((p, .cell (.ol ds)) :: L) B st' n → P (.ref p) st') : (toRef (.ol ds) st).holds E P := go_toRef (k _ _ h.push)
theorem toRefDU {P : D → Store → Prop} {t : Bool} {kvs : List (DK × D)} (h : UrnL L B st n) (k : ∀ p st', UrnL ((p, .cell (.od t kvs)) :: L) B st' n → P (.ref p) st') : (toRef (.od t kvs) st).holds E P := go_toRefD (k _ _ h.push)
def okW : D → Bool
  | .str w => w.cps.all (· < 0x110000) && decide (w.cps.size ≤ 10)
  | _ => false
theorem okW_gd {d : D} (h : okW d = true) : ∃ w, d = .str w ∧ Gd 1000 1 10 (.str w) := by
  cases d with
  | str w =>
    have h : (w.cps.all (· < 0x110000) && decide (w.cps.size ≤ 10)) = true := h
    simp only [Bool.and_eq_true, decide_eq_true_eq] at h
    exact ⟨w, rfl, gd_str h.1 h.2⟩
  | _ => cases h
theorem go_pickW {ds : List D} {r : Int} {P : D → Store → Prop} (h0 : 0 ≤ r) (h1 : r < ds.length) (hs : ds.all okW = true) (q : ∀ w, Gd 1000 1 10 (.str w) → P (.str w) st) : (ixD (.lst ds) (.int r) st).holds E P := by
  obtain ⟨d, e, hm⟩ := at_mem h0 h1
  obtain ⟨w, rfl, g⟩ := okW_gd (List.all_eq_true.mp hs d hm)
  exact go_ix (x := .lst ds) e (q w g)
theorem UrnL.perm {M : List (Nat × SObj)} (h : UrnL L B st n) (hp : List.Perm M L) : UrnL M B st n := ⟨h.1, fun q hq => h.2.1 q (hp.subset hq), (List.Perm.nodup_iff ((hp.map _).cons n)).mpr h.2.2⟩
/-- an object is let go -/
theorem UrnL.lockd (h : UrnL ((a, o) :: L) B st n) : UrnL L B (st.set a o') n := (h.put (i := 0) (o' := o') rfl).sub (List.sublist_cons_self _ _)
theorem UrnL.any {i : Nat} (h : UrnL L B st n) (hi : L[i]? = some (a, o)) : st[a]? = some o := h.get (List.mem_of_getElem? hi)
end
theorem go_pick {ds : List D} {r : Int} {st : Store} {P : D → Store → Prop} (h0 : 0 ≤ r) (h1 : r < ds.length) (q : ∀ d ∈ ds, P d st) : (ixD (.lst ds) (.int r) st).holds E P := by
  obtain ⟨d, e, hm⟩ := at_mem h0 h1
  exact go_ix (x := .lst ds) e (q d hm)
theorem go_pickT {ds : List D} {r : Int} {st : Store} {P : D → Store → Prop} (h0 : 0 ≤ r) (h1 : r < ds.length) (q : ∀ d ∈ ds, P d st) : (ixD (.tup ds) (.int r) st).holds E P := by
  obtain ⟨d, e, hm⟩ := at_mem h0 h1
  exact go_ix (x := .tup ds) e (q d hm)
theorem all_mem1 {P : D → Prop} {d : D} {ds : List D} (h : P d) (h' : ∀ x ∈ ds, P x) : ∀ x ∈ d :: ds, P x := by
  intro x hx
  rcases List.mem_cons.mp hx with rfl | hx
  · exact h
  · exact h' x hx
theorem all_mem0 {P : D → Prop} : ∀ x ∈ ([] : List D), P x := fun x hx => nomatch hx
end LAW

set_option maxRecDepth 100000
set_option autoImplicit false
set_option maxHeartbeats 1000000
set_option linter.all false
set_option pp.maxSteps 3000
set_option pp.deepTerms false
namespace LAW
open PySem EV L2 PyProof.Rows
variable {E : ErP} {Ee : ErS}
local macro_rules | `(tactic| walk_at "gdl") => `(tactic| first
  | with_reducible exact Gd.fitw gd_non (by decide) | with_reducible exact Gd.fitw gd_bl (by decide)
  | ((with_reducible refine Gd.fitw (gd_int ?h) ?c); (case h => omega); (case c => decide))
  | ((with_reducible refine Gd.fit (N := ?N) (n := ?n) (w := ?w) ?h ?a ?b ?c); (case h => assumption); (case a => decide); (case b => decide); (case c => decide))
  | ((with_reducible refine Gd.fitw (gd_str (w := 50) ?h ?hw) ?c); (case h => decide +kernel); (case hw => decide +kernel); (case c => decide)))
local macro_rules | `(tactic| walk_at "gd") => `(tactic| first
  | walk_at "gdl"
  | ((with_reducible refine Gd.tupP ?h ?q); (case h => decide); (case q => walk_at "gds")) | ((with_reducible refine Gd.lstP ?h ?q); (case h => decide); (case q => walk_at "gds")))
local macro_rules | `(tactic| walk_at "gds") => `(tactic| first
  | with_reducible exact Gds.nil
  | ((with_reducible refine Gds.consL ?h1 ?h3 ?h2); (case h1 => walk_at "gdl"); (case h3 => decide); (case h2 => walk_at "gds"))
  | ((with_reducible refine Gds.consH ?h1 ?h3 ?h2); (case h1 => walk_at "gd"); (case h3 => decide); (case h2 => walk_at "gds")))
local macro_rules | `(tactic| walk_at "shw") => `(tactic| ((with_reducible refine go_shw (N := 10 ^ 12) (n := 64) (w := 1000000) ?h (Nat.le_refl _) (Nat.le_refl _) (Nat.le_refl _) ?hq); (case h => walk_at "gd")))
local macro_rules | `(tactic| walk_at "same") => `(tactic| first
  | ((with_reducible refine go_neG ?h ?hq); (case h => walk_at "gd")) | ((with_reducible refine go_eqG ?h ?hq); (case h => walk_at "gd")))
local macro_rules | `(tactic| walk_at "len") => `(tactic| first
  | (simp only [List.length_cons, List.length_nil, Nat.reduceAdd, Nat.reduceLeDiff]; done)
  | (simp only [List.length_cons, List.length_nil, List.length_append, List.length_map]; omega) | omega)
local macro_rules | `(tactic| walk_at "cell") => `(tactic| first
  | assumption
  | ((with_reducible refine get_set (o := ?oo) ?hh); (case hh => walk_at "cell"))
  | exact UrnL.get ‹_› (by repeat' (first | with_reducible exact List.mem_cons_self | with_reducible refine List.mem_cons_of_mem _ ?_)))
local macro_rules | `(tactic| walk_at "lkf") => `(tactic| repeat (first | with_reducible exact lkF_nil | with_reducible exact lkF_hd | with_reducible refine lkF_tl (by decide +kernel) ?_))
local macro_rules | `(tactic| walk_at "tab") => `(tactic| repeat (first | with_reducible exact tab_hd | with_reducible refine tab_tl (by decide +kernel) ?_))
local macro_rules | `(tactic| walk_at "lkd") => `(tactic| repeat (first | with_reducible exact lkd_hd | with_reducible refine lkd_tl (by decide +kernel) ?_))
local macro_rules | `(tactic| walk_at "ndp") => `(tactic| first | with_reducible exact nd_hd | ((with_reducible refine nd_tl (r' := ?r2) ?hd ?hq); (case hd => decide +kernel); (case hq => walk_at "ndp")))
local macro_rules | `(tactic| walk_at "mem") => `(tactic| repeat (first | with_reducible exact List.mem_cons_self | with_reducible refine List.mem_cons_of_mem _ ?_))
local macro_rules | `(tactic| walk_at "evo") => `(tactic| first
  | ((with_reducible refine go_le1000 ?h ?hq); (case h => walk_at "len"))
  | ((with_reducible refine go_isiR (ds := ?ds) ?h ?hq); (case h => walk_at "cell")) | with_reducible refine go_par ?_ | with_reducible refine go_par2 ?_ | with_reducible refine go_vLock ?_ | ((with_reducible refine go_lockR (ds := ?ds) ?h ?hq); (case h => walk_at "cell"))
  | ((with_reducible refine go_addL ?h ?hq); (case h => walk_at "len")) | ((with_reducible refine go_addT ?h ?hq); (case h => walk_at "len"))
  | with_reducible refine go_enumL ?_ | with_reducible refine go_enumT ?_ | with_reducible refine go_zipL ?_ | with_reducible refine go_zipT ?_ | with_reducible refine go_revdL ?_ | with_reducible refine go_revdT ?_
  | ((with_reducible refine go_gTpK ?hl ?hq); (case hl => exact rfl)) | with_reducible refine go_inK ?_
  | with_reducible refine go_par3 ?_ | with_reducible refine go_par3e ?_ | ((with_reducible refine go_ext (ds := ?ds) ?h ?hq); (case h => exact rfl)) | ((with_reducible refine go_ext1 ?h ?hq); (case h => walk_at "len"))
  | with_reducible refine go_vMeth ?_ | ((with_reducible refine go_mlen ?h ?hq); (case h => exact rfl))
  | with_reducible refine lcp_nil ?_ | ((with_reducible refine lcp_consY (bs := ?bs) ?hb ?hq); (case hb => exact rfl)) | ((with_reducible refine lcp_cons (bs := ?bs) ?hb ?hq); (case hb => exact rfl))
  | ((with_reducible refine go_methD (C := ?C) (fs := ?fs) (ps := ?ps) (F := ?F) ?h ?hl ?ht ?hq); (case h => walk_at "cell"); (case hl => walk_at "lkf"); (case ht => walk_at "tab"))
  | ((with_reducible refine go_fld (C := ?C) (fs := ?fs) (d := ?d) ?h ?hm ?hl ?hq); (case h => walk_at "cell"); (case hm => walk_at "mem"); (case hl => walk_at "lkf"))
  | with_reducible refine go_gFld ?_ | with_reducible refine ns_hd ?_ | with_reducible refine ns_tl (by decide +kernel) ?_ | with_reducible refine ns_nil ?_
  | ((with_reducible refine go_setF (C := ?C) (fs := ?fs) ?h ?hm ?hz ?hq); (case h => walk_at "cell"); (case hm => walk_at "mem"); (case hz => walk_at "lt"))
  | ((with_reducible refine go_gTp ?hl ?hq); (case hl => exact rfl)) | with_reducible refine go_gsC ?_ | with_reducible refine go_gsN ?_ | with_reducible refine go_gN ?_
  | with_reducible refine go_fldA ?_
  | ((with_reducible refine go_augF (C := ?C) (fs := ?fs) (i := ?i) ?h ?hm ?hl ?hz ?hq); (case h => walk_at "cell"); (case hm => walk_at "mem"); (case hl => walk_at "lkf"); (case hz => walk_at "lt"))
  | with_reducible refine go_vBm ?_ | ((with_reducible refine go_isLR (ds := ?ds) ?h ?hq); (case h => walk_at "cell"))
  | ((with_reducible refine go_appD (ds := ?ds) ?h ?hz ?hq); (case h => walk_at "cell"); try (case hz => walk_at "lt"))
  | with_reducible refine go_vBd ?_ | ((with_reducible refine go_isDR (kvs := ?kvs) (k := ?k) ?h ?hq); (case h => walk_at "cell"))
  | with_reducible refine go_dnew ?_ | with_reducible refine go_toRefD ?_
  | with_reducible refine go_isN1 ?_ | with_reducible refine go_isN2 ?_ | with_reducible refine go_isN3 ?_ | with_reducible refine go_isN4 ?_ | with_reducible refine go_isN5 ?_ | with_reducible refine go_isN6 ?_
  | with_reducible refine go_isntN1 ?_ | with_reducible refine go_isntN2 ?_ | with_reducible refine go_isntN3 ?_ | with_reducible refine go_isntN4 ?_ | with_reducible refine go_isntN5 ?_ | with_reducible refine go_isntN6 ?_
  | ((with_reducible refine go_lenR (ds := ?ds) ?h ?hq); (case h => walk_at "cell"))
  | ((with_reducible refine go_lenRD (kvs := ?kvs) ?h ?hq); (case h => walk_at "cell"))
  | ((with_reducible refine go_tupR (ds := ?ds) ?h ?hq); (case h => walk_at "cell")) | ((with_reducible refine go_listR (ds := ?ds) ?h ?hq); (case h => walk_at "cell"))
  | ((with_reducible refine go_ixS (t := ?tt) (kvs := ?kvs) (d := ?d) ?h ?hl ?hq); (case h => walk_at "cell"); (case hl => walk_at "lkd"))
  | ((with_reducible refine go_setRS (kvs := ?kvs) (kvs' := ?kv2) ?h ?hz ?he ?hq); (case h => walk_at "cell"); (case hz => walk_at "lt"); (case he => walk_at "ndp"))
  | ((with_reducible refine go_disp ?hq)) | ((with_reducible refine go_ds (kvs := ?kvs) ?l ?e ?hq); (case l => exact rfl); (case e => (simp only [zipS_cons, zipS_nil]; exact rfl)))
  | ((with_reducible refine go_ixR (ds := ?ds) (d := ?d) ?h ?hi ?hq); (case h => walk_at "cell"); (case hi => exact rfl))
  | ((with_reducible refine go_setRL (ds := ?ds) (k := ?k) ?h ?hi ?hq); (case h => walk_at "cell"); (case hi => exact rfl))
  | fail)
local macro_rules | `(tactic| walk_at "lt") => `(tactic| first
  | (simp only [List.length_cons, List.length_nil, Nat.reduceAdd, Nat.reduceLTLE, Nat.reduceLeDiff]; done) | walk_at "len")
local macro_rules | `(tactic| walk_at "ev1b") => `(tactic| first
  | walk_at "ev0"
  | with_reducible refine go_seq ?_ | with_reducible refine go_c ?_ | with_reducible refine go_v2 ?_ | with_reducible refine go_vCons ?_ | with_reducible refine go_vNil ?_ | with_reducible refine go_vA ?_
  | ((with_reducible refine go_name (d := ?d) ?hh ?hq); (case hh => exact rfl))
  | with_reducible refine go_set ?_ | with_reducible refine go_if ?_ | with_reducible refine go_vB ?_ | with_reducible refine go_ret ?_ | with_reducible refine go_bl ?_ | with_reducible refine go_in ?_ | with_reducible refine go_in2 ?_
  | with_reducible refine go_add ?_ | with_reducible refine go_sub ?_ | with_reducible refine go_neg ?_
  | with_reducible refine go_lt ?_ | with_reducible refine go_le ?_ | with_reducible refine go_gt ?_ | with_reducible refine go_ge ?_ | with_reducible refine go_eqI ?_ | with_reducible refine go_neI ?_ | with_reducible refine go_eqS ?_ | with_reducible refine go_neS ?_ | with_reducible refine go_isB ?_ | with_reducible refine go_isntB ?_
  | with_reducible refine go_vNot ?_ | with_reducible refine go_vAnd ?_ | with_reducible refine go_vOr ?_ | with_reducible refine go_vAndV ?_ | with_reducible refine go_vOrV ?_ | with_reducible refine go_vNotV ?_ | with_reducible refine go_vIf ?_ | with_reducible refine go_chain ?_
  | with_reducible refine go_vFrz ?_ | with_reducible refine go_vRef ?_ | with_reducible refine go_vSl ?_ | with_reducible refine go_frz ?_ | with_reducible refine go_frz2 ?_ | with_reducible refine go_toRef ?_
  | ((with_reducible refine go_mkTup ?hn ?hq); (case hn => walk_at "len"))
  | ((with_reducible refine go_mkLst ?hn ?hq); (case hn => walk_at "len"))
  | with_reducible refine go_setS ?_ | with_reducible refine go_asg ?_ | ((with_reducible refine go_pat (bs := ?bs) ?hh ?hq); (case hh => exact rfl)) | with_reducible refine go_subR ?_
  | with_reducible refine go_nil ?_ | with_reducible refine go_retN ?_ | with_reducible refine go_expr ?_ | with_reducible refine go_v1 ?_ | with_reducible refine go_for ?_
  | ((with_reducible refine go_appN (ds := ?ds) ?hh ?hn ?hq); (case hh => exact rfl); try (case hn => (first | (simp only [List.length_cons, List.length_nil, Nat.reduceAdd, Nat.reduceLTLE, Nat.reduceLeDiff]; done) | walk_at "len"))) | ((with_reducible refine go_ixO (ds := ?ds) ?hh ?hq); (case hh => exact rfl)) | ((with_reducible refine go_lenO (ds := ?ds) ?hh ?hq); (case hh => exact rfl))
  | ((with_reducible refine go_frzO (ds := ?ds) ?hh ?hq); (case hh => exact rfl)) | ((with_reducible refine go_frzV (d := ?d) ?hh ?hq); (case hh => exact rfl))
  | with_reducible refine go_seqL ?_ | with_reducible refine go_seqT ?_ | with_reducible refine go_abs ?_ | with_reducible refine go_max2 ?_ | with_reducible refine go_min2 ?_ | with_reducible refine go_intI ?_ | with_reducible refine go_intB ?_
  | with_reducible refine go_lenL ?_ | with_reducible refine go_lenT ?_ | with_reducible refine go_lenC ?_ | with_reducible refine go_listL ?_ | with_reducible refine go_listT ?_ | with_reducible refine go_tupL ?_ | with_reducible refine go_tupT ?_
  | ((with_reducible refine go_isiT (a := ?a) ?hh ?hT ?hb ?hq); (case hh => exact rfl); (case hT => decide); (case hb => decide +kernel)) | ((with_reducible refine go_isiF (a := ?a) ?hh ?hT ?hb ?hq); (case hh => exact rfl); (case hT => decide); (case hb => decide +kernel))
  | ((with_reducible refine go_isi2T (a := ?a) ?hh ?hT ?hb ?hq); (case hh => exact rfl); (case hT => decide); (case hb => decide +kernel)) | ((with_reducible refine go_isi2F (a := ?a) ?hh ?hT ?hb ?hq); (case hh => exact rfl); (case hT => decide); (case hb => decide +kernel))
  | with_reducible refine go_revL ?_ | with_reducible refine go_revT ?_ | with_reducible refine go_noP ?_ | with_reducible refine go_soP ?_ | with_reducible refine go_slice ?_
  | ((with_reducible refine go_ix (d := ?d) ?hh ?hq); (case hh => first | assumption | exact rfl))
  | ((with_reducible refine go_mod ?hn ?hq); try (case hn => first | decide | omega)) | ((with_reducible refine go_fdiv ?hn ?hm ?hq); try (case hn => first | decide | omega); try (case hm => first | decide | assumption | exact lg1 (by omega)))
  | with_reducible refine go_mul9 ?_ | ((with_reducible refine go_mul ?hn ?hq); try (case hn => first | decide | assumption | (exact lg2 (by omega) (by omega)))) | with_reducible refine go_pow8 ?_ | with_reducible refine go_mul9 ?_ | ((with_reducible refine go_pow ?hn ?hm ?hq); try (case hn => decide); try (case hm => first | decide | assumption))
  | with_reducible refine go_fn1 ?_ | with_reducible refine go_fn2 ?_ | with_reducible refine go_fn3 ?_ | with_reducible refine go_fn4 ?_ | with_reducible refine go_fn5 ?_ | with_reducible refine go_fn6 ?_
  | ((with_reducible refine go_addSL ?hn ?hq); (case hn => first | (simp only [List.length_cons, List.length_nil, List.length_append]; omega) | omega))
  | ((with_reducible refine go_kdIx (f := ?f) ?hh ?hq); (case hh => exact rfl)) | with_reducible refine go_kdIn ?_
  | ((with_reducible refine go_callL (y := ?y) (ps := ?ps) (F := ?F) ?hh ?ht ?hq); (case hh => exact rfl); (case ht => repeat (first | with_reducible exact tab_hd | with_reducible refine tab_tl (by decide +kernel) ?_)))
  | ((with_reducible refine go_lenEq ?hh ?hq); (case hh => exact rfl))
  | ((with_reducible refine go_star (ds := ?ds) (bs := ?bs) ?hd ?hb ?hh ?hq); (case hd => exact rfl); (case hb => (simp only [List.length_cons, List.length_nil]; omega)); (case hh => exact rfl))
  | ((with_reducible refine go_lrng2 ?hn ?hq); (case hn => omega)) | ((with_reducible refine go_lrng1 ?hn ?hq); (case hn => omega))
  | ((with_reducible refine go_rep ?h1 ?h2 ?h3 ?hq); (case h1 => simp); (case h2 => omega); (case h3 => (simp only [List.length_cons, List.length_nil]; omega)))
  | with_reducible refine go_slT ?_ | with_reducible refine go_slL ?_ | with_reducible refine go_addCT (by omega) ?_ | with_reducible refine go_addCL (by omega) ?_
  | with_reducible refine go_tt ?_ | with_reducible refine go_ff ?_ | with_reducible refine go_ntt ?_ | with_reducible refine go_nff ?_
  | ((with_reducible refine go_dt ?hp ?hq); (case hp => first | (with_reducible rfl) | omega | decide | decide +kernel)) | ((with_reducible refine go_df ?hp ?hq); (case hp => first | (with_reducible rfl) | omega | decide | decide +kernel)) | with_reducible refine go_d (fun hc => ?_) (fun hc => ?_)
  | ((with_reducible refine go_ndt ?hp ?hq); (case hp => first | (with_reducible rfl) | omega | decide | decide +kernel)) | ((with_reducible refine go_ndf ?hp ?hq); (case hp => first | (with_reducible rfl) | omega | decide | decide +kernel)) | with_reducible refine go_nd (fun hc => ?_) (fun hc => ?_)
  | (with_reducible refine And.intro (fun hc => ?_) (fun hc => ?_))
  | walk_at "ev2")
local macro_rules | `(tactic| walk_at "nm") => `(tactic| ((with_reducible refine go_nm (env' := ?en) ?hh ?hq); (case hh => first | (dsimp only [List.set, bindE, setAll, List.foldl, List.map, List.cons_append, List.nil_append, List.replicate, wipeE]; exact rfl) | exact rfl)))
local macro_rules | `(tactic| walk_at "ev1") => `(tactic| first | walk_at "nm" | walk_at "ev1b")
local macro_rules | `(tactic| walk_at "ev") => `(tactic| repeat' walk_at "ev1")
local macro_rules | `(tactic| walk_at "evs") => `(tactic| ((try walk_at "nm"); repeat' walk_at "ev1b"))

local macro_rules | `(tactic| walk_at "ev2") => `(tactic| first
  | (with_reducible refine draw ‹_› (by omega) (by omega) (by omega) fun r st1 r0 r1 h1 hl => ?_)
  | with_reducible refine go_pick (by omega) (by first | omega | (simp only [List.length_cons, List.length_nil]; omega)) ?_ | with_reducible refine go_pickT (by omega) (by first | omega | (simp only [List.length_cons, List.length_nil]; omega)) ?_
  | with_reducible refine all_mem1 ?_ ?_ | with_reducible exact all_mem0
  | walk_at "evo")

local macro_rules | `(tactic| walk_at "ev0") => `(tactic| first
  | with_reducible refine toRefU ‹_› fun p st1 hu => ?_
  | with_reducible refine toRefDU ‹_› fun p st1 hu => ?_
  | with_reducible refine go_pickW (by omega) (by walk_at "lt") (by decide +kernel) fun w gw => ?_)

/-- the chief of k + 1 craft: turn, phase, own word, the told ones, where the dict of those who agreed is -/
abbrev CHF (k : Nat) (t : Int) (now own : Str) (told : List Str) (d : Nat) : SObj := .ins "Chief" [("places", .lst (IL (rngI 1 k))), ("at_turn", .int t), ("now", .str now), ("own", .str own), ("told", .tup (told.map .str)), ("have_agreed", .ref d)]
def AG (as : List Int) : List (DK × D) := as.map fun a => (DK.k (.inl a), D.bl true)
abbrev AGC (as : List Int) : SObj := .cell (.od false (AG as))
theorem lk_AG {x : Int} : ∀ {as : List Int}, (lkD (AG as) (.k (.inl x))).isSome = decide (x ∈ as)
  | [] => by simp [AG, lkD]
  | a :: as => by
    show (if (DK.k (.inl a)) = (DK.k (.inl x)) then some (D.bl true) else lkD (AG as) (.k (.inl x))).isSome = _
    by_cases e : a = x
    · subst e
      simp
    · rw [if_neg (by simpa using e), lk_AG]
      simp [Ne.symm e]
theorem put_AG {x : Int} : ∀ {as : List Int}, x ∉ as → putD (AG as) (.k (.inl x)) (.bl true) = AG (as ++ [x])
  | [], _ => rfl
  | a :: as, h => by
    have h' : a ≠ x ∧ x ∉ as := by
      rw [List.mem_cons, not_or] at h
      exact ⟨Ne.symm h.1, h.2⟩
    show (if (DK.k (.inl a)) = (DK.k (.inl x)) then _ else _) = _
    rw [if_neg (by simpa using h'.1)]
    show (DK.k (.inl a), D.bl true) :: putD (AG as) (.k (.inl x)) (.bl true) = _
    rw [put_AG h'.2]
    rfl
theorem len_AG {as : List Int} : (AG as).length = as.length := List.length_map _
section
variable {st : Store} {P : D → Store → Prop} {d : Nat} {as : List Int} {x : Int}
theorem inX_AG (h : st[d]? = some (AGC as)) : inX st (.int x) (.ref d) = some (decide (x ∈ as)) := by
  have e1 : dictOf st (.ref d) = some (AG as) := by
    unfold dictOf
    simp only [h]
  have e2 : EV.kindOf st (.ref d) (AG as) = some false := by
    unfold EV.kindOf
    simp only [h]
  unfold inX
  rw [e1]
  show inKv st (.int x) (.ref d) (AG as) = _
  unfold inKv
  rw [e2]
  show (if DK.isT (.k (.inl x)) = false then some (lkD (AG as) (.k (.inl x))).isSome else none) = _
  rw [if_pos (show DK.isT (.k (.inl x)) = false from rfl), lk_AG]
theorem go_inAG (h : st[d]? = some (AGC as)) (q : P (.bl (decide (x ∈ as))) st) : (inD (.int x) (.ref d) st).holds E P := go_inX (inX_AG h) q
theorem go_notinAG (h : st[d]? = some (AGC as)) (q : P (.bl (!decide (x ∈ as))) st) : (notinD (.int x) (.ref d) st).holds E P := go_notinX (inX_AG h) q
theorem go_dcAG {a b c : EV.Slot} {Q : List (DK × D) → Store → Prop} : ∀ {ts as : List Int}, (as ++ ts).Nodup → (as ++ ts).length ≤ 1000 → Q (AG (as ++ ts)) st → (dcL (.n 2) ttYes (vName 2) (vC (.bl true)) [a, b, c] (IL ts) (AG as) st).holds E Q
  | [], as, _, _, q => by
    rw [List.append_nil] at q
    exact q
  | t :: ts, as, hn, hl, q => by
    have hz : (AG as).length < sizeLine := by
      rw [len_AG]
      rw [List.length_append, List.length_cons] at hl
      exact Nat.lt_of_lt_of_le (by omega : as.length < 1000) line1000
    have hm : t ∉ as := fun hm => (List.nodup_append.mp hn).2.2 t hm t List.mem_cons_self rfl
    show (dcL (.n 2) ttYes (vName 2) (vC (.bl true)) [a, b, c] (.int t :: IL ts) (AG as) st).holds E Q
    unfold dcL
    show Res.holds (if (AG as).length < sizeLine then dcL (.n 2) ttYes (vName 2) (vC (.bl true)) [a, b, c] (IL ts) (putD (AG as) (.k (.inl t)) (.bl true)) st else .stuck) E Q
    rw [if_pos hz, put_AG hm]
    refine go_dcAG (as := as ++ [t]) ?_ ?_ ?_
    · rw [List.append_assoc]; exact hn
    · rw [List.append_assoc]; exact hl
    · rw [List.append_assoc]; exact q
end
theorem repl_str {w : Str} : ∀ n : Nat, (List.replicate n [D.str w]).flatten = (List.replicate n w).map D.str
  | 0 => rfl
  | n + 1 => by
    rw [List.replicate_succ, List.replicate_succ, List.flatten_cons, List.map_cons, repl_str n]
    rfl
theorem nodup_rngI {lo : Int} {n : Nat} : (rngI lo n).Nodup := lt_rngI.imp fun h => by omega
def toI : D → Int
  | .int i => i
  | _ => 0
def silI (k : Nat) (as : List Int) : List Int := (rngI 1 k).filter fun x => !decide (x ∈ as)
def agrI (k : Nat) (as : List Int) : List Int := (rngI 1 k).filter fun x => decide (x ∈ as)
section
variable {L : List (Nat × SObj)} {B u : Nat} {st : Store} {P : D → Store → Prop} {k c d : Nat} {t : Int} {now own : Str} {told : List Str} {as : List Int}
theorem go_chief_init (hu : UrnL ((c, .ins "Chief" []) :: L) B st u) (hk : 1 ≤ k ∧ k ≤ 100) (q : ∀ d st', UrnL ((c, CHF k 0 "clear" "free" (List.replicate (k + 1) "free") d) :: (d, AGC (rngI 1 k)) :: L) B st' u → P .non st') : (F_Chief___init__ [.ref c, .int (k + 1)] st).holds E P := by
  unfold F_Chief___init__
  have h2 : [D.ref c, D.int (k + 1)].length = 2 := by simp only [List.length_cons, List.length_nil]
  with_reducible refine go_fn h2 ?_
  unfold B_Chief___init__
  have hc := hu.any (i := 0) rfl
  walk_at "ev"
  simp only [List.set_set]
  have er : rngD 1 ((k : Int) + 1 - 1).toNat = IL (rngI 1 k) := by
    rw [rngD_IL, show ((k : Int) + 1 - 1).toNat = k by omega]
  have et : (List.replicate ((k : Int) + 1).toNat [D.str "free"]).flatten = (List.replicate (k + 1) (Str.ofString "free")).map D.str := by
    rw [show ((k : Int) + 1).toNat = k + 1 by omega]
    exact repl_str (k + 1)
  rw [er, et]
  have hu1 := hu.put (i := 0) (o' := .ins "Chief" [("places", .lst (IL (rngI 1 k))), ("at_turn", .int 0), ("now", .str "clear"), ("own", .str "free"), ("told", .tup ((List.replicate (k + 1) (Str.ofString "free")).map .str))]) rfl
  dsimp only [List.set] at hu1
  clear hc hu er et
  revert hu1
  generalize st.set c (.ins "Chief" [("places", .lst (IL (rngI 1 k))), ("at_turn", .int 0), ("now", .str "clear"), ("own", .str "free"), ("told", .tup ((List.replicate (k + 1) (Str.ofString "free")).map .str))]) = s1
  intro hu1
  have hc1 := hu1.any (i := 0) rfl
  with_reducible refine go_dc0 ?_
  walk_at "ev"
  dsimp only [wipeE, List.set]
  have e0 : ([] : List (DK × D)) = AG [] := rfl
  rw [e0]
  have hn0 : ([] ++ rngI 1 k).Nodup := nodup_rngI
  with_reducible refine go_dcAG hn0 (by rw [List.nil_append, len_rngI]; omega) ?_
  rw [List.nil_append]
  with_reducible refine toRefDU hu1 fun d s2 hu2 => ?_
  have hc2 := hu2.any (i := 1) rfl
  walk_at "ev"
  have hu3 := hu2.put (i := 1) (o' := CHF k 0 "clear" "free" (List.replicate (k + 1) "free") d) rfl
  exact q d _ (hu3.perm (List.Perm.swap _ _ _))
theorem go_chief_make (hu : UrnL L B st u) (hk : 1 ≤ k ∧ k ≤ 100) (q : ∀ c d st', UrnL ((c, CHF k 0 "clear" "free" (List.replicate (k + 1) "free") d) :: (d, AGC (rngI 1 k)) :: L) B st' u → P (.ref c) st') : (makeD "Chief" 2 F_Chief___init__ [.int (k + 1)] st).holds E P := by
  with_reducible refine go_makeD ?_ (go_chief_init hu.push hk fun d st' h => ?_)
  · simp only [List.length_cons, List.length_nil]
  · exact ⟨rfl, q _ _ _ h⟩
theorem go_chief_turn (h : st[c]? = some (CHF k t now own told d)) (q : P (.int t) st) : (F_Chief_turn [.ref c] st).holds E P := by
  unfold F_Chief_turn
  with_reducible refine go_fn (n := 1) (by simp only [List.length_cons, List.length_nil]) ?_
  unfold B_Chief_turn
  walk_at "ev"
  exact q
theorem go_chief_word (h : st[c]? = some (CHF k t now own told d)) (q : P (.str own) st) : (F_Chief_word [.ref c] st).holds E P := by
  unfold F_Chief_word
  with_reducible refine go_fn (n := 1) (by simp only [List.length_cons, List.length_nil]) ?_
  unfold B_Chief_word
  walk_at "ev"
  exact q
theorem go_chief_phase (h : st[c]? = some (CHF k t now own told d)) (q : P (.str now) st) : (F_Chief_phase [.ref c] st).holds E P := by
  unfold F_Chief_phase
  with_reducible refine go_fn (n := 1) (by simp only [List.length_cons, List.length_nil]) ?_
  unfold B_Chief_phase
  walk_at "ev"
  exact q
theorem go_chief_silent (h : st[c]? = some (CHF k t now own told d)) (hd : st[d]? = some (AGC as)) (hk : k ≤ 100) (q : P (.tup (IL (silI k as))) st) : (F_Chief_silent [.ref c] st).holds E P := by
  unfold F_Chief_silent
  with_reducible refine go_fn (n := 1) (by simp only [List.length_cons, List.length_nil]) ?_
  unfold B_Chief_silent
  walk_at "ev"
  with_reducible refine go_vLc (fun x => !decide (toI x ∈ as)) (fun x => x) ?_
  walk_at "ev"
  with_reducible refine ⟨?_, fun x hx => ?_, ?_⟩
  · rw [List.length_map, len_rngI]; omega
  · obtain ⟨y, hy, rfl⟩ := List.mem_map.mp hx
    with_reducible refine ⟨_, rfl, ?_, fun _ => ?_⟩
    · walk_at "ev"
      with_reducible refine go_notinAG hd ?_
      walk_at "ev"
      exact ⟨rfl, rfl⟩
    · walk_at "ev"
      exact ⟨rfl, rfl⟩
  · have e1 : ((IL (rngI 1 k)).filter fun x => !decide (toI x ∈ as)).map (fun x => x) = IL (silI k as) := by
      rw [List.map_id', filter_IL]
      rfl
    rw [e1]
    walk_at "ev"
    exact q
theorem go_chief_agreed (h : st[c]? = some (CHF k t now own told d)) (hd : st[d]? = some (AGC as)) (hk : k ≤ 100) (q : P (.tup (IL (agrI k as))) st) : (F_Chief_agreed [.ref c] st).holds E P := by
  unfold F_Chief_agreed
  with_reducible refine go_fn (n := 1) (by simp only [List.length_cons, List.length_nil]) ?_
  unfold B_Chief_agreed
  walk_at "ev"
  with_reducible refine go_vLc (fun x => decide (toI x ∈ as)) (fun x => x) ?_
  walk_at "ev"
  with_reducible refine ⟨?_, fun x hx => ?_, ?_⟩
  · rw [List.length_map, len_rngI]; omega
  · obtain ⟨y, hy, rfl⟩ := List.mem_map.mp hx
    with_reducible refine ⟨_, rfl, ?_, fun _ => ?_⟩
    · walk_at "ev"
      with_reducible refine go_inAG hd ?_
      walk_at "ev"
      exact ⟨rfl, rfl⟩
    · walk_at "ev"
      exact ⟨rfl, rfl⟩
  · have e1 : ((IL (rngI 1 k)).filter fun x => decide (toI x ∈ as)).map (fun x => x) = IL (agrI k as) := by
      rw [List.map_id', filter_IL]
      rfl
    rw [e1]
    walk_at "ev"
    exact q
end
end LAW

set_option maxRecDepth 100000
set_option autoImplicit false
set_option maxHeartbeats 1000000
set_option linter.all false
set_option pp.maxSteps 3000
set_option pp.deepTerms false
namespace LAW
open PySem EV L2 PyProof.Rows
variable {E : ErP} {Ee : ErS}
local macro_rules | `(tactic| walk_at "gdl") => `(tactic| first
  | with_reducible exact Gd.fitw gd_non (by decide) | with_reducible exact Gd.fitw gd_bl (by decide)
  | ((with_reducible refine Gd.fitw (gd_int ?h) ?c); (case h => omega); (case c => decide))
  | ((with_reducible refine Gd.fit (N := ?N) (n := ?n) (w := ?w) ?h ?a ?b ?c); (case h => assumption); (case a => decide); (case b => decide); (case c => decide))
  | ((with_reducible refine Gd.fitw (gd_str (w := 50) ?h ?hw) ?c); (case h => decide +kernel); (case hw => decide +kernel); (case c => decide)))
local macro_rules | `(tactic| walk_at "gd") => `(tactic| first
  | walk_at "gdl"
  | ((with_reducible refine Gd.tupP ?h ?q); (case h => decide); (case q => walk_at "gds")) | ((with_reducible refine Gd.lstP ?h ?q); (case h => decide); (case q => walk_at "gds")))
local macro_rules | `(tactic| walk_at "gds") => `(tactic| first
  | with_reducible exact Gds.nil
  | ((with_reducible refine Gds.consL ?h1 ?h3 ?h2); (case h1 => walk_at "gdl"); (case h3 => decide); (case h2 => walk_at "gds"))
  | ((with_reducible refine Gds.consH ?h1 ?h3 ?h2); (case h1 => walk_at "gd"); (case h3 => decide); (case h2 => walk_at "gds")))
local macro_rules | `(tactic| walk_at "shw") => `(tactic| ((with_reducible refine go_shw (N := 10 ^ 12) (n := 64) (w := 1000000) ?h (Nat.le_refl _) (Nat.le_refl _) (Nat.le_refl _) ?hq); (case h => walk_at "gd")))
local macro_rules | `(tactic| walk_at "same") => `(tactic| first
  | ((with_reducible refine go_neG ?h ?hq); (case h => walk_at "gd")) | ((with_reducible refine go_eqG ?h ?hq); (case h => walk_at "gd")))
local macro_rules | `(tactic| walk_at "len") => `(tactic| first
  | (simp only [List.length_cons, List.length_nil, Nat.reduceAdd, Nat.reduceLeDiff]; done)
  | (simp only [List.length_cons, List.length_nil, List.length_append, List.length_map]; omega) | omega)
local macro_rules | `(tactic| walk_at "cell") => `(tactic| first
  | assumption
  | ((with_reducible refine get_set (o := ?oo) ?hh); (case hh => walk_at "cell"))
  | exact UrnL.get ‹_› (by repeat' (first | with_reducible exact List.mem_cons_self | with_reducible refine List.mem_cons_of_mem _ ?_)))
local macro_rules | `(tactic| walk_at "lkf") => `(tactic| repeat (first | with_reducible exact lkF_nil | with_reducible exact lkF_hd | with_reducible refine lkF_tl (by decide +kernel) ?_))
local macro_rules | `(tactic| walk_at "tab") => `(tactic| repeat (first | with_reducible exact tab_hd | with_reducible refine tab_tl (by decide +kernel) ?_))
local macro_rules | `(tactic| walk_at "lkd") => `(tactic| repeat (first | with_reducible exact lkd_hd | with_reducible refine lkd_tl (by decide +kernel) ?_))
local macro_rules | `(tactic| walk_at "ndp") => `(tactic| first | with_reducible exact nd_hd | ((with_reducible refine nd_tl (r' := ?r2) ?hd ?hq); (case hd => decide +kernel); (case hq => walk_at "ndp")))
local macro_rules | `(tactic| walk_at "mem") => `(tactic| repeat (first | with_reducible exact List.mem_cons_self | with_reducible refine List.mem_cons_of_mem _ ?_))
local macro_rules | `(tactic| walk_at "evo") => `(tactic| first
  | ((with_reducible refine go_le1000 ?h ?hq); (case h => walk_at "len"))
  | ((with_reducible refine go_isiR (ds := ?ds) ?h ?hq); (case h => walk_at "cell")) | with_reducible refine go_par ?_ | with_reducible refine go_par2 ?_ | with_reducible refine go_vLock ?_ | ((with_reducible refine go_lockR (ds := ?ds) ?h ?hq); (case h => walk_at "cell"))
  | ((with_reducible refine go_addL ?h ?hq); (case h => walk_at "len")) | ((with_reducible refine go_addT ?h ?hq); (case h => walk_at "len"))
  | with_reducible refine go_enumL ?_ | with_reducible refine go_enumT ?_ | with_reducible refine go_zipL ?_ | with_reducible refine go_zipT ?_ | with_reducible refine go_revdL ?_ | with_reducible refine go_revdT ?_
  | ((with_reducible refine go_gTpK ?hl ?hq); (case hl => exact rfl)) | with_reducible refine go_inK ?_
  | with_reducible refine go_par3 ?_ | with_reducible refine go_par3e ?_ | ((with_reducible refine go_ext (ds := ?ds) ?h ?hq); (case h => exact rfl)) | ((with_reducible refine go_ext1 ?h ?hq); (case h => walk_at "len"))
  | with_reducible refine go_vMeth ?_ | ((with_reducible refine go_mlen ?h ?hq); (case h => exact rfl))
  | with_reducible refine lcp_nil ?_ | ((with_reducible refine lcp_consY (bs := ?bs) ?hb ?hq); (case hb => exact rfl)) | ((with_reducible refine lcp_cons (bs := ?bs) ?hb ?hq); (case hb => exact rfl))
  | ((with_reducible refine go_methD (C := ?C) (fs := ?fs) (ps := ?ps) (F := ?F) ?h ?hl ?ht ?hq); (case h => walk_at "cell"); (case hl => walk_at "lkf"); (case ht => walk_at "tab"))
  | ((with_reducible refine go_fld (C := ?C) (fs := ?fs) (d := ?d) ?h ?hm ?hl ?hq); (case h => walk_at "cell"); (case hm => walk_at "mem"); (case hl => walk_at "lkf"))
  | with_reducible refine go_gFld ?_ | with_reducible refine ns_hd ?_ | with_reducible refine ns_tl (by decide +kernel) ?_ | with_reducible refine ns_nil ?_
  | ((with_reducible refine go_setF (C := ?C) (fs := ?fs) ?h ?hm ?hz ?hq); (case h => walk_at "cell"); (case hm => walk_at "mem"); (case hz => walk_at "lt"))
  | ((with_reducible refine go_gTp ?hl ?hq); (case hl => exact rfl)) | with_reducible refine go_gsC ?_ | with_reducible refine go_gsN ?_ | with_reducible refine go_gN ?_
  | with_reducible refine go_fldA ?_
  | ((with_reducible refine go_augF (C := ?C) (fs := ?fs) (i := ?i) ?h ?hm ?hl ?hz ?hq); (case h => walk_at "cell"); (case hm => walk_at "mem"); (case hl => walk_at "lkf"); (case hz => walk_at "lt"))
  | with_reducible refine go_vBm ?_ | ((with_reducible refine go_isLR (ds := ?ds) ?h ?hq); (case h => walk_at "cell"))
  | ((with_reducible refine go_appD (ds := ?ds) ?h ?hz ?hq); (case h => walk_at "cell"); try (case hz => walk_at "lt"))
  | with_reducible refine go_vBd ?_ | ((with_reducible refine go_isDR (kvs := ?kvs) (k := ?k) ?h ?hq); (case h => walk_at "cell"))
  | with_reducible refine go_dnew ?_ | with_reducible refine go_toRefD ?_
  | with_reducible refine go_isN1 ?_ | with_reducible refine go_isN2 ?_ | with_reducible refine go_isN3 ?_ | with_reducible refine go_isN4 ?_ | with_reducible refine go_isN5 ?_ | with_reducible refine go_isN6 ?_
  | with_reducible refine go_isntN1 ?_ | with_reducible refine go_isntN2 ?_ | with_reducible refine go_isntN3 ?_ | with_reducible refine go_isntN4 ?_ | with_reducible refine go_isntN5 ?_ | with_reducible refine go_isntN6 ?_
  | ((with_reducible refine go_lenR (ds := ?ds) ?h ?hq); (case h => walk_at "cell"))
  | ((with_reducible refine go_lenRD (kvs := ?kvs) ?h ?hq); (case h => walk_at "cell"))
  | ((with_reducible refine go_tupR (ds := ?ds) ?h ?hq); (case h => walk_at "cell")) | ((with_reducible refine go_listR (ds := ?ds) ?h ?hq); (case h => walk_at "cell"))
  | ((with_reducible refine go_ixS (t := ?tt) (kvs := ?kvs) (d := ?d) ?h ?hl ?hq); (case h => walk_at "cell"); (case hl => walk_at "lkd"))
  | ((with_reducible refine go_setRS (kvs := ?kvs) (kvs' := ?kv2) ?h ?hz ?he ?hq); (case h => walk_at "cell"); (case hz => walk_at "lt"); (case he => walk_at "ndp"))
  | ((with_reducible refine go_disp ?hq)) | ((with_reducible refine go_ds (kvs := ?kvs) ?l ?e ?hq); (case l => exact rfl); (case e => (simp only [zipS_cons, zipS_nil]; exact rfl)))
  | ((with_reducible refine go_ixR (ds := ?ds) (d := ?d) ?h ?hi ?hq); (case h => walk_at "cell"); (case hi => exact rfl))
  | ((with_reducible refine go_setRL (ds := ?ds) (k := ?k) ?h ?hi ?hq); (case h => walk_at "cell"); (case hi => exact rfl))
  | fail)
local macro_rules | `(tactic| walk_at "lt") => `(tactic| first
  | (simp only [List.length_cons, List.length_nil, Nat.reduceAdd, Nat.reduceLTLE, Nat.reduceLeDiff]; done) | walk_at "len")
local macro_rules | `(tactic| walk_at "ev1b") => `(tactic| first
  | walk_at "ev0"
  | with_reducible refine go_seq ?_ | with_reducible refine go_c ?_ | with_reducible refine go_v2 ?_ | with_reducible refine go_vCons ?_ | with_reducible refine go_vNil ?_ | with_reducible refine go_vA ?_
  | ((with_reducible refine go_name (d := ?d) ?hh ?hq); (case hh => exact rfl))
  | with_reducible refine go_set ?_ | with_reducible refine go_if ?_ | with_reducible refine go_vB ?_ | with_reducible refine go_ret ?_ | with_reducible refine go_bl ?_ | with_reducible refine go_in ?_ | with_reducible refine go_in2 ?_
  | with_reducible refine go_add ?_ | with_reducible refine go_sub ?_ | with_reducible refine go_neg ?_
  | with_reducible refine go_lt ?_ | with_reducible refine go_le ?_ | with_reducible refine go_gt ?_ | with_reducible refine go_ge ?_ | with_reducible refine go_eqI ?_ | with_reducible refine go_neI ?_ | with_reducible refine go_eqS ?_ | with_reducible refine go_neS ?_ | with_reducible refine go_isB ?_ | with_reducible refine go_isntB ?_
  | with_reducible refine go_vNot ?_ | with_reducible refine go_vAnd ?_ | with_reducible refine go_vOr ?_ | with_reducible refine go_vAndV ?_ | with_reducible refine go_vOrV ?_ | with_reducible refine go_vNotV ?_ | with_reducible refine go_vIf ?_ | with_reducible refine go_chain ?_
  | with_reducible refine go_vFrz ?_ | with_reducible refine go_vRef ?_ | with_reducible refine go_vSl ?_ | with_reducible refine go_frz ?_ | with_reducible refine go_frz2 ?_ | with_reducible refine go_toRef ?_
  | ((with_reducible refine go_mkTup ?hn ?hq); (case hn => walk_at "len"))
  | ((with_reducible refine go_mkLst ?hn ?hq); (case hn => walk_at "len"))
  | with_reducible refine go_setS ?_ | with_reducible refine go_asg ?_ | ((with_reducible refine go_pat (bs := ?bs) ?hh ?hq); (case hh => exact rfl)) | with_reducible refine go_subR ?_
  | with_reducible refine go_nil ?_ | with_reducible refine go_retN ?_ | with_reducible refine go_expr ?_ | with_reducible refine go_v1 ?_ | with_reducible refine go_for ?_
  | ((with_reducible refine go_appN (ds := ?ds) ?hh ?hn ?hq); (case hh => exact rfl); try (case hn => (first | (simp only [List.length_cons, List.length_nil, Nat.reduceAdd, Nat.reduceLTLE, Nat.reduceLeDiff]; done) | walk_at "len"))) | ((with_reducible refine go_ixO (ds := ?ds) ?hh ?hq); (case hh => exact rfl)) | ((with_reducible refine go_lenO (ds := ?ds) ?hh ?hq); (case hh => exact rfl))
  | ((with_reducible refine go_frzO (ds := ?ds) ?hh ?hq); (case hh => exact rfl)) | ((with_reducible refine go_frzV (d := ?d) ?hh ?hq); (case hh => exact rfl))
  | with_reducible refine go_seqL ?_ | with_reducible refine go_seqT ?_ | with_reducible refine go_abs ?_ | with_reducible refine go_max2 ?_ | with_reducible refine go_min2 ?_ | with_reducible refine go_intI ?_ | with_reducible refine go_intB ?_
  | with_reducible refine go_lenL ?_ | with_reducible refine go_lenT ?_ | with_reducible refine go_lenC ?_ | with_reducible refine go_listL ?_ | with_reducible refine go_listT ?_ | with_reducible refine go_tupL ?_ | with_reducible refine go_tupT ?_
  | ((with_reducible refine go_isiT (a := ?a) ?hh ?hT ?hb ?hq); (case hh => exact rfl); (case hT => decide); (case hb => decide +kernel)) | ((with_reducible refine go_isiF (a := ?a) ?hh ?hT ?hb ?hq); (case hh => exact rfl); (case hT => decide); (case hb => decide +kernel))
  | ((with_reducible refine go_isi2T (a := ?a) ?hh ?hT ?hb ?hq); (case hh => exact rfl); (case hT => decide); (case hb => decide +kernel)) | ((with_reducible refine go_isi2F (a := ?a) ?hh ?hT ?hb ?hq); (case hh => exact rfl); (case hT => decide); (case hb => decide +kernel))
  | with_reducible refine go_revL ?_ | with_reducible refine go_revT ?_ | with_reducible refine go_noP ?_ | with_reducible refine go_soP ?_ | with_reducible refine go_slice ?_
  | ((with_reducible refine go_ix (d := ?d) ?hh ?hq); (case hh => first | assumption | exact rfl))
  | ((with_reducible refine go_mod ?hn ?hq); try (case hn => first | decide | omega)) | ((with_reducible refine go_fdiv ?hn ?hm ?hq); try (case hn => first | decide | omega); try (case hm => first | decide | assumption | exact lg1 (by omega)))
  | with_reducible refine go_mul9 ?_ | ((with_reducible refine go_mul ?hn ?hq); try (case hn => first | decide | assumption | (exact lg2 (by omega) (by omega)))) | with_reducible refine go_pow8 ?_ | with_reducible refine go_mul9 ?_ | ((with_reducible refine go_pow ?hn ?hm ?hq); try (case hn => decide); try (case hm => first | decide | assumption))
  | with_reducible refine go_fn1 ?_ | with_reducible refine go_fn2 ?_ | with_reducible refine go_fn3 ?_ | with_reducible refine go_fn4 ?_ | with_reducible refine go_fn5 ?_ | with_reducible refine go_fn6 ?_
  | ((with_reducible refine go_addSL ?hn ?hq); (case hn => first | (simp only [List.length_cons, List.length_nil, List.length_append]; omega) | omega))
  | ((with_reducible refine go_kdIx (f := ?f) ?hh ?hq); (case hh => exact rfl)) | with_reducible refine go_kdIn ?_
  | ((with_reducible refine go_callL (y := ?y) (ps := ?ps) (F := ?F) ?hh ?ht ?hq); (case hh => exact rfl); (case ht => repeat (first | with_reducible exact tab_hd | with_reducible refine tab_tl (by decide +kernel) ?_)))
  | ((with_reducible refine go_lenEq ?hh ?hq); (case hh => exact rfl))
  | ((with_reducible refine go_star (ds := ?ds) (bs := ?bs) ?hd ?hb ?hh ?hq); (case hd => exact rfl); (case hb => (simp only [List.length_cons, List.length_nil]; omega)); (case hh => exact rfl))
  | ((with_reducible refine go_lrng2 ?hn ?hq); (case hn => omega)) | ((with_reducible refine go_lrng1 ?hn ?hq); (case hn => omega))
  | ((with_reducible refine go_rep ?h1 ?h2 ?h3 ?hq); (case h1 => simp); (case h2 => omega); (case h3 => (simp only [List.length_cons, List.length_nil]; omega)))
  | with_reducible refine go_slT ?_ | with_reducible refine go_slL ?_ | with_reducible refine go_addCT (by omega) ?_ | with_reducible refine go_addCL (by omega) ?_
  | with_reducible refine go_tt ?_ | with_reducible refine go_ff ?_ | with_reducible refine go_ntt ?_ | with_reducible refine go_nff ?_
  | ((with_reducible refine go_dt ?hp ?hq); (case hp => first | (with_reducible rfl) | omega | decide | decide +kernel)) | ((with_reducible refine go_df ?hp ?hq); (case hp => first | (with_reducible rfl) | omega | decide | decide +kernel)) | with_reducible refine go_d (fun hc => ?_) (fun hc => ?_)
  | ((with_reducible refine go_ndt ?hp ?hq); (case hp => first | (with_reducible rfl) | omega | decide | decide +kernel)) | ((with_reducible refine go_ndf ?hp ?hq); (case hp => first | (with_reducible rfl) | omega | decide | decide +kernel)) | with_reducible refine go_nd (fun hc => ?_) (fun hc => ?_)
  | (with_reducible refine And.intro (fun hc => ?_) (fun hc => ?_))
  | walk_at "ev2")
local macro_rules | `(tactic| walk_at "nm") => `(tactic| ((with_reducible refine go_nm (env' := ?en) ?hh ?hq); (case hh => first | (dsimp only [List.set, bindE, setAll, List.foldl, List.map, List.cons_append, List.nil_append, List.replicate, wipeE]; exact rfl) | exact rfl)))
local macro_rules | `(tactic| walk_at "ev1") => `(tactic| first | walk_at "nm" | walk_at "ev1b")
local macro_rules | `(tactic| walk_at "ev") => `(tactic| repeat' walk_at "ev1")
local macro_rules | `(tactic| walk_at "evs") => `(tactic| ((try walk_at "nm"); repeat' walk_at "ev1b"))

local macro_rules | `(tactic| walk_at "ev2") => `(tactic| first
  | (with_reducible refine draw ‹_› (by omega) (by omega) (by omega) fun r st1 r0 r1 h1 hl => ?_)
  | with_reducible refine go_pick (by omega) (by first | omega | (simp only [List.length_cons, List.length_nil]; omega)) ?_ | with_reducible refine go_pickT (by omega) (by first | omega | (simp only [List.length_cons, List.length_nil]; omega)) ?_
  | with_reducible refine all_mem1 ?_ ?_ | with_reducible exact all_mem0
  | walk_at "evo")

local macro_rules | `(tactic| walk_at "ev0") => `(tactic| first
  | with_reducible refine toRefU ‹_› fun p st1 hu => ?_
  | with_reducible refine toRefDU ‹_› fun p st1 hu => ?_
  | with_reducible refine go_pickW (by omega) (by walk_at "lt") (by decide +kernel) fun w gw => ?_)

theorem eqB_tn {st : Store} {x : D} {xs : List D} {N n w : Nat} (g : Gd N n w (.tup (x :: xs))) (hN : N ≤ 10 ^ 12) (hn : n ≤ 64) : eqB st (.tup (x :: xs)) (.tup []) = some false := by
  obtain ⟨q, e, h1, h2, h3, h4, h5, h6⟩ := pl_pd hN _ g.1
  have a1 : pdR st (.tup (x :: xs)) = some q := pdR_of e
  have a2 : pdR st (.tup []) = some (.tuple []) := pdR_of rfl
  have s1 := shaped_of g hN hn e
  have s2 : SeqAt.shaped (.tuple []) = true := by decide +kernel
  have e' : (D.pds (x :: xs)).map PyData.tuple = some q := e
  have hq : PyData.eqv q (.tuple []) = false := by
    unfold D.pds at e'
    split at e'
    · cases e'
      rfl
    · cases e'
  show (match pdR st (.tup (x :: xs)), pdR st (.tup []) with
    | some a, some b => if SeqAt.shaped a = true ∧ SeqAt.shaped b = true then some (PyData.eqv a b) else none
    | _, _ => none) = _
  rw [a1, a2]
  simp only [s1, s2, and_self, if_true, hq]
theorem eqB_ln {st : Store} {p : Nat} {x : D} {xs : List D} {N n w : Nat} (h : st[p]? = some (.cell (.ol (x :: xs)))) (g : Gd N n w (.lst (x :: xs))) (hN : N ≤ 10 ^ 12) (hn : n ≤ 64) : eqB st (.ref p) (.lst []) = some false := by
  obtain ⟨q, e, h1, h2, h3, h4, h5, h6⟩ := pl_pd hN _ g.1
  have hs : rsv st 3 (.ref p) = some (.lst (x :: xs)) := by
    unfold rsv rsvW
    simp only [h]
    exact rsv_pl g.1
  have a1 := pdR_rsv hs e
  have a2 : pdR st (.lst []) = some (.list []) := pdR_of rfl
  have s1 := shaped_of g hN hn e
  have s2 : SeqAt.shaped (.list []) = true := by decide +kernel
  have e' : (D.pds (x :: xs)).map PyData.list = some q := e
  have hq : PyData.eqv q (.list []) = false := by
    unfold D.pds at e'
    split at e'
    · cases e'
      rfl
    · cases e'
  show (match pdR st (.ref p), pdR st (.lst []) with
    | some a, some b => if SeqAt.shaped a = true ∧ SeqAt.shaped b = true then some (PyData.eqv a b) else none
    | _, _ => none) = _
  rw [a1, a2]
  simp only [s1, s2, and_self, if_true, hq]
section
variable {st : Store} {P : D → Store → Prop} {ds : List D} {p : Nat}
theorem gd_e0 : Gd (10 ^ 12) 64 1000000 (.tup []) := (Gd.tup (n := 0) (Gds.nil (w := 0))).le (by decide) (by decide)
theorem gd_l0 : Gd (10 ^ 12) 64 1000000 (.lst []) := (Gd.lst (n := 0) (Gds.nil (w := 0))).le (by decide) (by decide)
theorem go_eqE (g : Gd (10 ^ 12) 64 1000000 (.tup ds)) (q : P (.bl ds.isEmpty) st) : (eqD (.tup ds) (.tup []) st).holds E P := by
  cases ds with
  | nil => exact go_eqG gd_e0 q
  | cons x xs => exact go_eqX (eqB_tn g (Nat.le_refl _) (Nat.le_refl _)) q
theorem go_neE (g : Gd (10 ^ 12) 64 1000000 (.tup ds)) (q : P (.bl (!ds.isEmpty)) st) : (neD (.tup ds) (.tup []) st).holds E P := by
  cases ds with
  | nil => exact go_neG gd_e0 q
  | cons x xs => exact go_neX (eqB_tn g (Nat.le_refl _) (Nat.le_refl _)) q
theorem go_neRE (h : st[p]? = some (.cell (.ol ds))) (g : Gd (10 ^ 12) 64 1000000 (.lst ds)) (q : P (.bl (!ds.isEmpty)) st) : (neD (.ref p) (.lst []) st).holds E P := by
  cases ds with
  | nil =>
    have hs : rsv st 3 (.ref p) = some (.lst []) := by
      unfold rsv rsvW
      simp only [h]
      exact rsv_pl gd_l0.1
    exact go_neX (eqB_same hs (rsv_pl gd_l0.1) gd_l0 (Nat.le_refl _) (Nat.le_refl _)) q
  | cons x xs => exact go_neX (eqB_ln h g (Nat.le_refl _) (Nat.le_refl _)) q
end
theorem sil_small {k : Nat} {as : List Int} (hk : k ≤ 100) : ∀ i ∈ silI k as, i.natAbs < 10 ^ 12 := fun i hi => by
  have := mem_rngI.mp (List.mem_filter.mp hi).1
  have h12 : (10 : Nat) ^ 12 = 1000000000000 := by decide
  omega
theorem sil_len {k : Nat} {as : List Int} : (silI k as).length ≤ k := Nat.le_trans (List.length_filter_le _ _) (by rw [len_rngI]; exact Nat.le_refl _)
theorem gd_sil {k : Nat} {as : List Int} (hk : k ≤ 100) : Gd (10 ^ 12) 64 1000000 (.tup (IL (silI k as))) := (Gd.tup (gds_IL (sil_small hk))).le (by decide) (by have := sil_len (k := k) (as := as); omega)
theorem gd_silL {k : Nat} {as : List Int} (hk : k ≤ 100) : Gd (10 ^ 12) 64 1000000 (.lst (IL (silI k as))) := (Gd.lst (gds_IL (sil_small hk))).le (by decide) (by have := sil_len (k := k) (as := as); omega)
theorem sil_all {k : Nat} : silI k (rngI 1 k) = [] := List.filter_eq_nil_iff.mpr fun x hx => by simpa using hx
/-- the word told to a place -/
def wAt (told : List Str) (p : Int) : Str := told.getD p.toNat ""
def letD (t : Int) (told : List Str) (p : Int) : D := .tup [.str "tell", .int p, .int t, .str (wAt told p)]
theorem at_told {st : Store} {told : List Str} {p : Int} (h0 : 0 ≤ p) (h1 : p < told.length) : atD st (.tup (told.map D.str)) p = some (.str (wAt told p)) := by
  show atI (told.map D.str) p = _
  unfold atI
  rw [ix_in h0 (by rw [List.length_map]; exact h1)]
  show (told.map D.str)[p.toNat]? = _
  have hl : p.toNat < told.length := by omega
  unfold wAt
  rw [List.getElem?_map, List.getElem?_eq_getElem hl, List.getD_eq_getElem?_getD, List.getElem?_eq_getElem hl]
  rfl
section
variable {L : List (Nat × SObj)} {B u : Nat} {st : Store} {P : D → Store → Prop} {k c d : Nat} {t p : Int} {now own ph kd : Str} {told told' : List Str} {as : List Int}
theorem go_chief_letters (h : st[c]? = some (CHF k t now own told d)) (hd : st[d]? = some (AGC as)) (hk : k ≤ 100) (ht : told.length = k + 1) (q : P (.tup ((silI k as).map (letD t told))) st) : (F_Chief_letters [.ref c] st).holds E P := by
  unfold F_Chief_letters
  with_reducible refine go_fn (n := 1) (by simp only [List.length_cons, List.length_nil]) ?_
  unfold B_Chief_letters
  walk_at "ev"
  with_reducible refine go_vLc (fun _ => true) (fun x => letD t told (toI x)) ?_
  walk_at "ev"
  with_reducible refine go_chief_silent h hd hk ?_
  have hl := sil_len (k := k) (as := as)
  walk_at "ev"
  with_reducible refine ⟨fun x hx => ?_, ?_⟩
  · obtain ⟨y, hy, rfl⟩ := List.mem_map.mp hx
    have hy' := mem_rngI.mp (List.mem_filter.mp hy).1
    have hat := at_told (st := st) (told := told) (p := y) (by omega) (by omega)
    refine ⟨_, rfl, ⟨rfl, rfl⟩, fun _ => ?_⟩
    walk_at "ev"
    exact ⟨rfl, rfl⟩
  · have e1 : ((IL (silI k as)).filter fun _ => true).map (fun x => letD t told (toI x)) = (silI k as).map (letD t told) := by
      rw [List.filter_eq_self.mpr fun _ _ => rfl, List.map_map]
      rfl
    rw [e1]
    walk_at "ev"
    exact q
theorem go_look {phs : List Str} {ys : List D} (hy : strsOf ys = some phs) (hph : (phs.any fun w => w == now) = true) (h : st[c]? = some (CHF k t now own told d)) (hd : st[d]? = some (AGC as)) (hk : k ≤ 100) (hs : silI k as = []) (q : P .non st) : (F_Chief_look_agreed [.ref c, .tup ys] st).holds E P := by
  unfold F_Chief_look_agreed
  with_reducible refine go_fn (n := 2) (by simp only [List.length_cons, List.length_nil]) ?_
  unfold B_Chief_look_agreed
  walk_at "ev"
  with_reducible refine go_notinT hy ?_
  rw [hph]
  walk_at "ev"
  with_reducible refine go_chief_silent h hd hk ?_
  walk_at "ev"
  with_reducible refine go_neE (gd_sil hk) ?_
  have e0 : (!(IL (silI k as)).isEmpty) = false := by
    rw [hs]
    rfl
  rw [e0]
  walk_at "ev"
  exact q
theorem go_begin (hu : UrnL ((c, CHF k t now own told d) :: L) B st u) (q : ∀ d' st', UrnL ((c, CHF k (t + 1) ph own told' d') :: (d', AGC []) :: L) B st' u → P .non st') : (F_Chief_begin [.ref c, .str ph, .tup (told'.map .str)] st).holds E P := by
  unfold F_Chief_begin
  with_reducible refine go_fn (n := 3) (by simp only [List.length_cons, List.length_nil]) ?_
  unfold B_Chief_begin
  have hc := hu.any (i := 0) rfl
  have p1 := hu.put (i := 0) (o' := CHF k (t + 1) now own told d) rfl
  have p2 := p1.put (i := 0) (o' := CHF k (t + 1) ph own told d) rfl
  have p3 := p2.put (i := 0) (o' := CHF k (t + 1) ph own told' d) rfl
  dsimp only [List.set] at p1 p2 p3
  walk_at "ev"
  rename_i p1' s1 hx
  have hy := hx.put (i := 1) (o' := CHF k (t + 1) ph own told' p1') rfl
  exact q p1' _ (hy.perm (List.Perm.swap _ _ _))
theorem set_AG (h : st[d]? = some (AGC as)) (hp : p ∉ as) (hl : as.length ≤ 100) : setR (.ref d) (.int p) (.bl true) st = some (st.set d (AGC (as ++ [p]))) := by
  unfold setR
  simp only [h]
  have hz : (AG as).length < sizeLine := by
    rw [len_AG]
    exact Nat.lt_of_lt_of_le (by omega : as.length < 1000) line1000
  show (if DK.isT (.k (.inl p)) = false ∧ (AG as).length < sizeLine then some (st.set d (.cell (.od false (putD (AG as) (.k (.inl p)) (.bl true))))) else none) = _
  rw [if_pos ⟨rfl, hz⟩, put_AG hp]
theorem go_hear_no (h : st[c]? = some (CHF k t now own told d)) (hd : st[d]? = some (AGC as)) (hp : p ∈ as) (q : P (.bl false) st) : (F_Chief_hear [.ref c, .tup [.str kd, .int p, .int t]] st).holds E P := by
  unfold F_Chief_hear
  with_reducible refine go_fn (n := 2) (by simp only [List.length_cons, List.length_nil]) ?_
  unfold B_Chief_hear
  walk_at "ev"
  with_reducible refine go_inAG hd ?_
  rw [decide_eq_true hp]
  walk_at "ev"
  exact q
theorem go_hear_yes (hu : UrnL ((c, CHF k t now own told d) :: (d, AGC as) :: L) B st u) (hk : k ≤ 100) (hp : p ∉ as) (hl : as.length ≤ 100) {o : Option (Str × Str)} (ho : lkT kt_SETTLED now = o.map fun z => [z.1, z.2])
    (q : ∀ st', UrnL ((c, CHF k t (if silI k (as ++ [p]) = [] then (o.map (·.1)).getD now else now) (if silI k (as ++ [p]) = [] then (o.map (·.2)).getD own else own) told d) :: (d, AGC (as ++ [p])) :: L) B st' u → P (.bl true) st') : (F_Chief_hear [.ref c, .tup [.str kd, .int p, .int t]] st).holds E P := by
  unfold F_Chief_hear
  with_reducible refine go_fn (n := 2) (by simp only [List.length_cons, List.length_nil]) ?_
  unfold B_Chief_hear
  have hc := hu.any (i := 0) rfl
  have hd := hu.any (i := 1) rfl
  have hu1 := hu.put (i := 1) (o' := AGC (as ++ [p])) rfl
  dsimp only [List.set] at hu1
  have hc1 := hu1.any (i := 0) rfl
  have hd1 := hu1.any (i := 1) rfl
  have hs1 := set_AG hd hp hl
  walk_at "ev"
  with_reducible refine go_inAG hd ?_
  rw [decide_eq_false hp]
  walk_at "ev"
  with_reducible refine ⟨_, hs1, ?_⟩
  walk_at "ev"
  with_reducible refine go_chief_silent hc1 hd1 hk ?_
  walk_at "ev"
  with_reducible refine go_eqE (gd_sil hk) ?_
  cases hse : silI k (as ++ [p]) with
  | cons x xs =>
    have e0 : (IL (x :: xs)).isEmpty = false := rfl
    rw [e0]
    walk_at "ev"
    refine q _ ?_
    rw [hse]
    exact hu1
  | nil =>
    have e0 : (IL ([] : List Int)).isEmpty = true := rfl
    rw [e0]
    walk_at "ev"
    cases o with
    | none =>
      have ho' : lkT kt_SETTLED now = none := ho
      with_reducible refine go_ktIn ho' ?_
      dsimp only [Option.isSome]
      walk_at "ev"
      refine q _ ?_
      rw [hse]
      exact hu1
    | some z =>
      have ho' : lkT kt_SETTLED now = some [z.1, z.2] := ho
      with_reducible refine go_ktIn ho' ?_
      dsimp only [Option.isSome]
      walk_at "ev"
      with_reducible refine go_ktIx ho' ?_
      have hu2 := hu1.put (i := 0) (o' := CHF k t z.1 own told d) rfl
      have hu3 := hu2.put (i := 0) (o' := CHF k t z.1 z.2 told d) rfl
      dsimp only [List.set] at hu2 hu3
      have hc2 := hu2.any (i := 0) rfl
      walk_at "ev"
      dsimp only [List.map]
      walk_at "ev"
      refine q _ ?_
      rw [hse]
      exact hu3
end
end LAW

set_option maxRecDepth 100000
set_option autoImplicit false
set_option maxHeartbeats 1000000
set_option linter.all false
namespace LAW
open PySem EV L2 PyProof.Rows
variable {E : ErP} {Ee : ErS}
local macro_rules | `(tactic| walk_at "gdl") => `(tactic| first
  | with_reducible exact Gd.fitw gd_non (by decide) | with_reducible exact Gd.fitw gd_bl (by decide)
  | ((with_reducible refine Gd.fitw (gd_int ?h) ?c); (case h => omega); (case c => decide))
  | ((with_reducible refine Gd.fit (N := ?N) (n := ?n) (w := ?w) ?h ?a ?b ?c); (case h => assumption); (case a => decide); (case b => decide); (case c => decide))
  | ((with_reducible refine Gd.fitw (gd_str (w := 50) ?h ?hw) ?c); (case h => decide +kernel); (case hw => decide +kernel); (case c => decide)))
local macro_rules | `(tactic| walk_at "gd") => `(tactic| first
  | walk_at "gdl"
  | ((with_reducible refine Gd.tupP ?h ?q); (case h => decide); (case q => walk_at "gds")) | ((with_reducible refine Gd.lstP ?h ?q); (case h => decide); (case q => walk_at "gds")))
local macro_rules | `(tactic| walk_at "gds") => `(tactic| first
  | with_reducible exact Gds.nil
  | ((with_reducible refine Gds.consL ?h1 ?h3 ?h2); (case h1 => walk_at "gdl"); (case h3 => decide); (case h2 => walk_at "gds"))
  | ((with_reducible refine Gds.consH ?h1 ?h3 ?h2); (case h1 => walk_at "gd"); (case h3 => decide); (case h2 => walk_at "gds")))
local macro_rules | `(tactic| walk_at "shw") => `(tactic| ((with_reducible refine go_shw (N := 10 ^ 12) (n := 64) (w := 1000000) ?h (Nat.le_refl _) (Nat.le_refl _) (Nat.le_refl _) ?hq); (case h => walk_at "gd")))
local macro_rules | `(tactic| walk_at "same") => `(tactic| first
  | ((with_reducible refine go_neG ?h ?hq); (case h => walk_at "gd")) | ((with_reducible refine go_eqG ?h ?hq); (case h => walk_at "gd")))
local macro_rules | `(tactic| walk_at "len") => `(tactic| first
  | (simp only [List.length_cons, List.length_nil, Nat.reduceAdd, Nat.reduceLeDiff]; done)
  | (simp only [List.length_cons, List.length_nil, List.length_append, List.length_map]; omega) | omega)
local macro_rules | `(tactic| walk_at "cell") => `(tactic| first
  | assumption
  | ((with_reducible refine get_set (o := ?oo) ?hh); (case hh => walk_at "cell"))
  | exact UrnL.get ‹_› (by repeat' (first | with_reducible exact List.mem_cons_self | with_reducible refine List.mem_cons_of_mem _ ?_)))
local macro_rules | `(tactic| walk_at "lkf") => `(tactic| repeat (first | with_reducible exact lkF_nil | with_reducible exact lkF_hd | with_reducible refine lkF_tl (by decide +kernel) ?_))
local macro_rules | `(tactic| walk_at "tab") => `(tactic| repeat (first | with_reducible exact tab_hd | with_reducible refine tab_tl (by decide +kernel) ?_))
local macro_rules | `(tactic| walk_at "lkd") => `(tactic| repeat (first | with_reducible exact lkd_hd | with_reducible refine lkd_tl (by decide +kernel) ?_))
local macro_rules | `(tactic| walk_at "ndp") => `(tactic| first | with_reducible exact nd_hd | ((with_reducible refine nd_tl (r' := ?r2) ?hd ?hq); (case hd => decide +kernel); (case hq => walk_at "ndp")))
local macro_rules | `(tactic| walk_at "mem") => `(tactic| repeat (first | with_reducible exact List.mem_cons_self | with_reducible refine List.mem_cons_of_mem _ ?_))
local macro_rules | `(tactic| walk_at "evo") => `(tactic| first
  | ((with_reducible refine go_le1000 ?h ?hq); (case h => walk_at "len"))
  | ((with_reducible refine go_isiR (ds := ?ds) ?h ?hq); (case h => walk_at "cell")) | with_reducible refine go_par ?_ | with_reducible refine go_par2 ?_ | with_reducible refine go_vLock ?_ | ((with_reducible refine go_lockR (ds := ?ds) ?h ?hq); (case h => walk_at "cell"))
  | ((with_reducible refine go_addL ?h ?hq); (case h => walk_at "len")) | ((with_reducible refine go_addT ?h ?hq); (case h => walk_at "len"))
  | with_reducible refine go_enumL ?_ | with_reducible refine go_enumT ?_ | with_reducible refine go_zipL ?_ | with_reducible refine go_zipT ?_ | with_reducible refine go_revdL ?_ | with_reducible refine go_revdT ?_
  | ((with_reducible refine go_gTpK ?hl ?hq); (case hl => exact rfl)) | with_reducible refine go_inK ?_
  | with_reducible refine go_par3 ?_ | with_reducible refine go_par3e ?_ | ((with_reducible refine go_ext (ds := ?ds) ?h ?hq); (case h => exact rfl)) | ((with_reducible refine go_ext1 ?h ?hq); (case h => walk_at "len"))
  | with_reducible refine go_vMeth ?_ | ((with_reducible refine go_mlen ?h ?hq); (case h => exact rfl))
  | with_reducible refine lcp_nil ?_ | ((with_reducible refine lcp_consY (bs := ?bs) ?hb ?hq); (case hb => exact rfl)) | ((with_reducible refine lcp_cons (bs := ?bs) ?hb ?hq); (case hb => exact rfl))
  | ((with_reducible refine go_methD (C := ?C) (fs := ?fs) (ps := ?ps) (F := ?F) ?h ?hl ?ht ?hq); (case h => walk_at "cell"); (case hl => walk_at "lkf"); (case ht => walk_at "tab"))
  | ((with_reducible refine go_fld (C := ?C) (fs := ?fs) (d := ?d) ?h ?hm ?hl ?hq); (case h => walk_at "cell"); (case hm => walk_at "mem"); (case hl => walk_at "lkf"))
  | with_reducible refine go_gFld ?_ | with_reducible refine ns_hd ?_ | with_reducible refine ns_tl (by decide +kernel) ?_ | with_reducible refine ns_nil ?_
  | ((with_reducible refine go_setF (C := ?C) (fs := ?fs) ?h ?hm ?hz ?hq); (case h => walk_at "cell"); (case hm => walk_at "mem"); (case hz => walk_at "lt"))
  | ((with_reducible refine go_gTp ?hl ?hq); (case hl => exact rfl)) | with_reducible refine go_gsC ?_ | with_reducible refine go_gsN ?_ | with_reducible refine go_gN ?_
  | with_reducible refine go_fldA ?_
  | ((with_reducible refine go_augF (C := ?C) (fs := ?fs) (i := ?i) ?h ?hm ?hl ?hz ?hq); (case h => walk_at "cell"); (case hm => walk_at "mem"); (case hl => walk_at "lkf"); (case hz => walk_at "lt"))
  | with_reducible refine go_vBm ?_ | ((with_reducible refine go_isLR (ds := ?ds) ?h ?hq); (case h => walk_at "cell"))
  | ((with_reducible refine go_appD (ds := ?ds) ?h ?hz ?hq); (case h => walk_at "cell"); try (case hz => walk_at "lt"))
  | with_reducible refine go_vBd ?_ | ((with_reducible refine go_isDR (kvs := ?kvs) (k := ?k) ?h ?hq); (case h => walk_at "cell"))
  | with_reducible refine go_dnew ?_ | with_reducible refine go_toRefD ?_
  | with_reducible refine go_isN1 ?_ | with_reducible refine go_isN2 ?_ | with_reducible refine go_isN3 ?_ | with_reducible refine go_isN4 ?_ | with_reducible refine go_isN5 ?_ | with_reducible refine go_isN6 ?_
  | with_reducible refine go_isntN1 ?_ | with_reducible refine go_isntN2 ?_ | with_reducible refine go_isntN3 ?_ | with_reducible refine go_isntN4 ?_ | with_reducible refine go_isntN5 ?_ | with_reducible refine go_isntN6 ?_
  | ((with_reducible refine go_lenR (ds := ?ds) ?h ?hq); (case h => walk_at "cell"))
  | ((with_reducible refine go_lenRD (kvs := ?kvs) ?h ?hq); (case h => walk_at "cell"))
  | ((with_reducible refine go_tupR (ds := ?ds) ?h ?hq); (case h => walk_at "cell")) | ((with_reducible refine go_listR (ds := ?ds) ?h ?hq); (case h => walk_at "cell"))
  | ((with_reducible refine go_ixS (t := ?tt) (kvs := ?kvs) (d := ?d) ?h ?hl ?hq); (case h => walk_at "cell"); (case hl => walk_at "lkd"))
  | ((with_reducible refine go_setRS (kvs := ?kvs) (kvs' := ?kv2) ?h ?hz ?he ?hq); (case h => walk_at "cell"); (case hz => walk_at "lt"); (case he => walk_at "ndp"))
  | ((with_reducible refine go_disp ?hq)) | ((with_reducible refine go_ds (kvs := ?kvs) ?l ?e ?hq); (case l => exact rfl); (case e => (simp only [zipS_cons, zipS_nil]; exact rfl)))
  | ((with_reducible refine go_ixR (ds := ?ds) (d := ?d) ?h ?hi ?hq); (case h => walk_at "cell"); (case hi => exact rfl))
  | ((with_reducible refine go_setRL (ds := ?ds) (k := ?k) ?h ?hi ?hq); (case h => walk_at "cell"); (case hi => exact rfl))
  | fail)
local macro_rules | `(tactic| walk_at "lt") => `(tactic| first
  | (simp only [List.length_cons, List.length_nil, Nat.reduceAdd, Nat.reduceLTLE, Nat.reduceLeDiff]; done) | walk_at "len")
local macro_rules | `(tactic| walk_at "ev1b") => `(tactic| first
  | walk_at "ev0"
  | with_reducible refine go_seq ?_ | with_reducible refine go_c ?_ | with_reducible refine go_v2 ?_ | with_reducible refine go_vCons ?_ | with_reducible refine go_vNil ?_ | with_reducible refine go_vA ?_
  | ((with_reducible refine go_name (d := ?d) ?hh ?hq); (case hh => exact rfl))
  | with_reducible refine go_set ?_ | with_reducible refine go_if ?_ | with_reducible refine go_vB ?_ | with_reducible refine go_ret ?_ | with_reducible refine go_bl ?_ | with_reducible refine go_in ?_ | with_reducible refine go_in2 ?_
  | with_reducible refine go_add ?_ | with_reducible refine go_sub ?_ | with_reducible refine go_neg ?_
  | with_reducible refine go_lt ?_ | with_reducible refine go_le ?_ | with_reducible refine go_gt ?_ | with_reducible refine go_ge ?_ | with_reducible refine go_eqI ?_ | with_reducible refine go_neI ?_ | with_reducible refine go_eqS ?_ | with_reducible refine go_neS ?_ | with_reducible refine go_isB ?_ | with_reducible refine go_isntB ?_
  | with_reducible refine go_vNot ?_ | with_reducible refine go_vAnd ?_ | with_reducible refine go_vOr ?_ | with_reducible refine go_vAndV ?_ | with_reducible refine go_vOrV ?_ | with_reducible refine go_vNotV ?_ | with_reducible refine go_vIf ?_ | with_reducible refine go_chain ?_
  | with_reducible refine go_vFrz ?_ | with_reducible refine go_vRef ?_ | with_reducible refine go_vSl ?_ | with_reducible refine go_frz ?_ | with_reducible refine go_frz2 ?_ | with_reducible refine go_toRef ?_
  | ((with_reducible refine go_mkTup ?hn ?hq); (case hn => walk_at "len"))
  | ((with_reducible refine go_mkLst ?hn ?hq); (case hn => walk_at "len"))
  | with_reducible refine go_setS ?_ | with_reducible refine go_asg ?_ | ((with_reducible refine go_pat (bs := ?bs) ?hh ?hq); (case hh => exact rfl)) | with_reducible refine go_subR ?_
  | with_reducible refine go_nil ?_ | with_reducible refine go_retN ?_ | with_reducible refine go_expr ?_ | with_reducible refine go_v1 ?_ | with_reducible refine go_for ?_
  | ((with_reducible refine go_appN (ds := ?ds) ?hh ?hn ?hq); (case hh => exact rfl); try (case hn => (first | (simp only [List.length_cons, List.length_nil, Nat.reduceAdd, Nat.reduceLTLE, Nat.reduceLeDiff]; done) | walk_at "len"))) | ((with_reducible refine go_ixO (ds := ?ds) ?hh ?hq); (case hh => exact rfl)) | ((with_reducible refine go_lenO (ds := ?ds) ?hh ?hq); (case hh => exact rfl))
  | ((with_reducible refine go_frzO (ds := ?ds) ?hh ?hq); (case hh => exact rfl)) | ((with_reducible refine go_frzV (d := ?d) ?hh ?hq); (case hh => exact rfl))
  | with_reducible refine go_seqL ?_ | with_reducible refine go_seqT ?_ | with_reducible refine go_abs ?_ | with_reducible refine go_max2 ?_ | with_reducible refine go_min2 ?_ | with_reducible refine go_intI ?_ | with_reducible refine go_intB ?_
  | with_reducible refine go_lenL ?_ | with_reducible refine go_lenT ?_ | with_reducible refine go_lenC ?_ | with_reducible refine go_listL ?_ | with_reducible refine go_listT ?_ | with_reducible refine go_tupL ?_ | with_reducible refine go_tupT ?_
  | ((with_reducible refine go_isiT (a := ?a) ?hh ?hT ?hb ?hq); (case hh => exact rfl); (case hT => decide); (case hb => decide +kernel)) | ((with_reducible refine go_isiF (a := ?a) ?hh ?hT ?hb ?hq); (case hh => exact rfl); (case hT => decide); (case hb => decide +kernel))
  | ((with_reducible refine go_isi2T (a := ?a) ?hh ?hT ?hb ?hq); (case hh => exact rfl); (case hT => decide); (case hb => decide +kernel)) | ((with_reducible refine go_isi2F (a := ?a) ?hh ?hT ?hb ?hq); (case hh => exact rfl); (case hT => decide); (case hb => decide +kernel))
  | with_reducible refine go_revL ?_ | with_reducible refine go_revT ?_ | with_reducible refine go_noP ?_ | with_reducible refine go_soP ?_ | with_reducible refine go_slice ?_
  | ((with_reducible refine go_ix (d := ?d) ?hh ?hq); (case hh => first | assumption | exact rfl))
  | ((with_reducible refine go_mod ?hn ?hq); try (case hn => first | decide | omega)) | ((with_reducible refine go_fdiv ?hn ?hm ?hq); try (case hn => first | decide | omega); try (case hm => first | decide | assumption | exact lg1 (by omega)))
  | with_reducible refine go_mul9 ?_ | ((with_reducible refine go_mul ?hn ?hq); try (case hn => first | decide | assumption | (exact lg2 (by omega) (by omega)))) | with_reducible refine go_pow8 ?_ | with_reducible refine go_mul9 ?_ | ((with_reducible refine go_pow ?hn ?hm ?hq); try (case hn => decide); try (case hm => first | decide | assumption))
  | with_reducible refine go_fn1 ?_ | with_reducible refine go_fn2 ?_ | with_reducible refine go_fn3 ?_ | with_reducible refine go_fn4 ?_ | with_reducible refine go_fn5 ?_ | with_reducible refine go_fn6 ?_
  | ((with_reducible refine go_addSL ?hn ?hq); (case hn => first | (simp only [List.length_cons, List.length_nil, List.length_append]; omega) | omega))
  | ((with_reducible refine go_kdIx (f := ?f) ?hh ?hq); (case hh => exact rfl)) | with_reducible refine go_kdIn ?_
  | ((with_reducible refine go_callL (y := ?y) (ps := ?ps) (F := ?F) ?hh ?ht ?hq); (case hh => exact rfl); (case ht => repeat (first | with_reducible exact tab_hd | with_reducible refine tab_tl (by decide +kernel) ?_)))
  | ((with_reducible refine go_lenEq ?hh ?hq); (case hh => exact rfl))
  | ((with_reducible refine go_star (ds := ?ds) (bs := ?bs) ?hd ?hb ?hh ?hq); (case hd => exact rfl); (case hb => (simp only [List.length_cons, List.length_nil]; omega)); (case hh => exact rfl))
  | ((with_reducible refine go_lrng2 ?hn ?hq); (case hn => omega)) | ((with_reducible refine go_lrng1 ?hn ?hq); (case hn => omega))
  | ((with_reducible refine go_rep ?h1 ?h2 ?h3 ?hq); (case h1 => simp); (case h2 => omega); (case h3 => (simp only [List.length_cons, List.length_nil]; omega)))
  | with_reducible refine go_slT ?_ | with_reducible refine go_slL ?_ | with_reducible refine go_addCT (by omega) ?_ | with_reducible refine go_addCL (by omega) ?_
  | with_reducible refine go_tt ?_ | with_reducible refine go_ff ?_ | with_reducible refine go_ntt ?_ | with_reducible refine go_nff ?_
  | ((with_reducible refine go_dt ?hp ?hq); (case hp => first | (with_reducible rfl) | omega | decide | decide +kernel)) | ((with_reducible refine go_df ?hp ?hq); (case hp => first | (with_reducible rfl) | omega | decide | decide +kernel)) | with_reducible refine go_d (fun hc => ?_) (fun hc => ?_)
  | ((with_reducible refine go_ndt ?hp ?hq); (case hp => first | (with_reducible rfl) | omega | decide | decide +kernel)) | ((with_reducible refine go_ndf ?hp ?hq); (case hp => first | (with_reducible rfl) | omega | decide | decide +kernel)) | with_reducible refine go_nd (fun hc => ?_) (fun hc => ?_)
  | (with_reducible refine And.intro (fun hc => ?_) (fun hc => ?_))
  | walk_at "ev2")
local macro_rules | `(tactic| walk_at "nm") => `(tactic| ((with_reducible refine go_nm (env' := ?en) ?hh ?hq); (case hh => first | (dsimp only [List.set, bindE, setAll, List.foldl, List.map, List.cons_append, List.nil_append, List.replicate, wipeE]; exact rfl) | exact rfl)))
local macro_rules | `(tactic| walk_at "ev1") => `(tactic| first | walk_at "nm" | walk_at "ev1b")
local macro_rules | `(tactic| walk_at "ev") => `(tactic| repeat' walk_at "ev1")
local macro_rules | `(tactic| walk_at "evs") => `(tactic| ((try walk_at "nm"); repeat' walk_at "ev1b"))

local macro_rules | `(tactic| walk_at "ev2") => `(tactic| first
  | (with_reducible refine draw ‹_› (by omega) (by omega) (by omega) fun r st1 r0 r1 h1 hl => ?_)
  | with_reducible refine go_pick (by omega) (by first | omega | (simp only [List.length_cons, List.length_nil]; omega)) ?_ | with_reducible refine go_pickT (by omega) (by first | omega | (simp only [List.length_cons, List.length_nil]; omega)) ?_
  | with_reducible refine all_mem1 ?_ ?_ | with_reducible exact all_mem0
  | walk_at "evo")

abbrev W3 : List Str := ["climb", "hold", "sink"]
abbrev W4 : List Str := ["climb", "free", "hold", "sink"]
theorem w34 {w : Str} (h : w ∈ W3) : w ∈ W4 := by
  simp only [List.mem_cons, List.not_mem_nil, or_false] at h ⊢
  rcases h with h | h | h <;> simp [h]
theorem gd_w4 {w : Str} {N n : Nat} (h : w ∈ W4) : Gd N n 10 (.str w) := by
  simp only [List.mem_cons, List.not_mem_nil, or_false] at h
  rcases h with rfl | rfl | rfl | rfl <;> exact gd_str (by decide +kernel) (by decide +kernel)
theorem gds_w4 {N : Nat} : ∀ {ws : List Str}, (∀ w ∈ ws, w ∈ W4) → Gds N 0 (11 * ws.length) (ws.map .str)
  | [], _ => Gds.nil
  | w :: ws, h => (Gds.cons (gd_w4 (h w List.mem_cons_self)) (gds_w4 fun x hx => h x (List.mem_cons_of_mem _ hx))).le (Nat.le_refl _) (by rw [List.length_cons]; omega)
section
variable {L : List (Nat × SObj)} {B u : Nat} {st : Store} {P : D → Store → Prop} {n : Int}
theorem go__law_words (hu : UrnL L B st u) (hB : B ≤ 900000) (hn : 0 ≤ n ∧ n ≤ 10) (q : ∀ (ws : List Str) st', ws.length = n.toNat → (∀ w ∈ ws, w ∈ W3) → UrnL L (B + 10) st' u → P (.tup (ws.map .str)) st') : (F__law_words [.ref u, .int n] st).holds E P := by
  unfold F__law_words
  with_reducible refine go_fn (n := 2) (by simp only [List.length_cons, List.length_nil]) ?_
  unfold B__law_words
  walk_at "ev"
  with_reducible refine go_lc0 ?_
  walk_at "ev"
  with_reducible refine go_rng1 (by omega) ?_
  dsimp only [wipeE, List.set]
  refine lcp_rng (fun m ys st => UrnL L (B + m) st u ∧ ∃ ws : List Str, ys = ws.map .str ∧ ws.length = m ∧ ∀ w ∈ ws, w ∈ W3) ⟨hu.le (by omega), [], rfl, rfl, fun _ h => nomatch h⟩ ?_ ?_
  · rintro ys st1 ⟨hu1, ws, rfl, hl, hw⟩
    refine ⟨by rw [List.length_map]; omega, ?_⟩
    walk_at "ev"
    exact q ws _ (by omega) hw (hu1.le (by omega))
  · rintro m ys st1 hm ⟨hu1, ws, rfl, hl, hw⟩
    have key : ∀ w ∈ W3, (∃ ws' : List Str, ws.map D.str ++ [.str w] = ws'.map .str ∧ ws'.length = m + 1 ∧ ∀ x ∈ ws', x ∈ W3) := fun w hw' => by
      refine ⟨ws ++ [w], by rw [List.map_append]; rfl, by rw [List.length_append, hl]; rfl, fun x hx => ?_⟩
      rcases List.mem_append.mp hx with h | h
      · exact hw x h
      · rw [List.mem_singleton.mp h]
        exact hw'
    refine ⟨_, rfl, ?_⟩
    walk_at "ev"
    all_goals exact ⟨by assumption, key _ (by simp)⟩
end
end LAW

set_option maxRecDepth 100000
set_option autoImplicit false
set_option maxHeartbeats 1000000
set_option linter.all false
set_option pp.maxSteps 3000
set_option pp.deepTerms false
namespace LAW
open PySem EV L2 PyProof.Rows
variable {E : ErP} {Ee : ErS}
local macro_rules | `(tactic| walk_at "gdl") => `(tactic| first
  | with_reducible exact Gd.fitw gd_non (by decide) | with_reducible exact Gd.fitw gd_bl (by decide)
  | ((with_reducible refine Gd.fitw (gd_int ?h) ?c); (case h => omega); (case c => decide))
  | ((with_reducible refine Gd.fit (N := ?N) (n := ?n) (w := ?w) ?h ?a ?b ?c); (case h => assumption); (case a => decide); (case b => decide); (case c => decide))
  | ((with_reducible refine Gd.fitw (gd_str (w := 50) ?h ?hw) ?c); (case h => decide +kernel); (case hw => decide +kernel); (case c => decide)))
local macro_rules | `(tactic| walk_at "gd") => `(tactic| first
  | walk_at "gdl"
  | ((with_reducible refine Gd.tupP ?h ?q); (case h => decide); (case q => walk_at "gds")) | ((with_reducible refine Gd.lstP ?h ?q); (case h => decide); (case q => walk_at "gds")))
local macro_rules | `(tactic| walk_at "gds") => `(tactic| first
  | with_reducible exact Gds.nil
  | ((with_reducible refine Gds.consL ?h1 ?h3 ?h2); (case h1 => walk_at "gdl"); (case h3 => decide); (case h2 => walk_at "gds"))
  | ((with_reducible refine Gds.consH ?h1 ?h3 ?h2); (case h1 => walk_at "gd"); (case h3 => decide); (case h2 => walk_at "gds")))
local macro_rules | `(tactic| walk_at "shw") => `(tactic| ((with_reducible refine go_shw (N := 10 ^ 12) (n := 64) (w := 1000000) ?h (Nat.le_refl _) (Nat.le_refl _) (Nat.le_refl _) ?hq); (case h => walk_at "gd")))
local macro_rules | `(tactic| walk_at "same") => `(tactic| first
  | ((with_reducible refine go_neG ?h ?hq); (case h => walk_at "gd")) | ((with_reducible refine go_eqG ?h ?hq); (case h => walk_at "gd")))
local macro_rules | `(tactic| walk_at "len") => `(tactic| first
  | (simp only [List.length_cons, List.length_nil, Nat.reduceAdd, Nat.reduceLeDiff]; done)
  | (simp only [List.length_cons, List.length_nil, List.length_append, List.length_map]; omega) | omega)
local macro_rules | `(tactic| walk_at "cell") => `(tactic| first
  | assumption
  | ((with_reducible refine get_set (o := ?oo) ?hh); (case hh => walk_at "cell"))
  | exact UrnL.get ‹_› (by repeat' (first | with_reducible exact List.mem_cons_self | with_reducible refine List.mem_cons_of_mem _ ?_)))
local macro_rules | `(tactic| walk_at "lkf") => `(tactic| repeat (first | with_reducible exact lkF_nil | with_reducible exact lkF_hd | with_reducible refine lkF_tl (by decide +kernel) ?_))
local macro_rules | `(tactic| walk_at "tab") => `(tactic| repeat (first | with_reducible exact tab_hd | with_reducible refine tab_tl (by decide +kernel) ?_))
local macro_rules | `(tactic| walk_at "lkd") => `(tactic| repeat (first | with_reducible exact lkd_hd | with_reducible refine lkd_tl (by decide +kernel) ?_))
local macro_rules | `(tactic| walk_at "ndp") => `(tactic| first | with_reducible exact nd_hd | ((with_reducible refine nd_tl (r' := ?r2) ?hd ?hq); (case hd => decide +kernel); (case hq => walk_at "ndp")))
local macro_rules | `(tactic| walk_at "mem") => `(tactic| repeat (first | with_reducible exact List.mem_cons_self | with_reducible refine List.mem_cons_of_mem _ ?_))
local macro_rules | `(tactic| walk_at "evo") => `(tactic| first
  | ((with_reducible refine go_le1000 ?h ?hq); (case h => walk_at "len"))
  | ((with_reducible refine go_isiR (ds := ?ds) ?h ?hq); (case h => walk_at "cell")) | with_reducible refine go_par ?_ | with_reducible refine go_par2 ?_ | with_reducible refine go_vLock ?_ | ((with_reducible refine go_lockR (ds := ?ds) ?h ?hq); (case h => walk_at "cell"))
  | ((with_reducible refine go_addL ?h ?hq); (case h => walk_at "len")) | ((with_reducible refine go_addT ?h ?hq); (case h => walk_at "len"))
  | with_reducible refine go_enumL ?_ | with_reducible refine go_enumT ?_ | with_reducible refine go_zipL ?_ | with_reducible refine go_zipT ?_ | with_reducible refine go_revdL ?_ | with_reducible refine go_revdT ?_
  | ((with_reducible refine go_gTpK ?hl ?hq); (case hl => exact rfl)) | with_reducible refine go_inK ?_
  | with_reducible refine go_par3 ?_ | with_reducible refine go_par3e ?_ | ((with_reducible refine go_ext (ds := ?ds) ?h ?hq); (case h => exact rfl)) | ((with_reducible refine go_ext1 ?h ?hq); (case h => walk_at "len"))
  | with_reducible refine go_vMeth ?_ | ((with_reducible refine go_mlen ?h ?hq); (case h => exact rfl))
  | with_reducible refine lcp_nil ?_ | ((with_reducible refine lcp_consY (bs := ?bs) ?hb ?hq); (case hb => exact rfl)) | ((with_reducible refine lcp_cons (bs := ?bs) ?hb ?hq); (case hb => exact rfl))
  | ((with_reducible refine go_methD (C := ?C) (fs := ?fs) (ps := ?ps) (F := ?F) ?h ?hl ?ht ?hq); (case h => walk_at "cell"); (case hl => walk_at "lkf"); (case ht => walk_at "tab"))
  | ((with_reducible refine go_fld (C := ?C) (fs := ?fs) (d := ?d) ?h ?hm ?hl ?hq); (case h => walk_at "cell"); (case hm => walk_at "mem"); (case hl => walk_at "lkf"))
  | with_reducible refine go_gFld ?_ | with_reducible refine ns_hd ?_ | with_reducible refine ns_tl (by decide +kernel) ?_ | with_reducible refine ns_nil ?_
  | ((with_reducible refine go_setF (C := ?C) (fs := ?fs) ?h ?hm ?hz ?hq); (case h => walk_at "cell"); (case hm => walk_at "mem"); (case hz => walk_at "lt"))
  | ((with_reducible refine go_gTp ?hl ?hq); (case hl => exact rfl)) | with_reducible refine go_gsC ?_ | with_reducible refine go_gsN ?_ | with_reducible refine go_gN ?_
  | with_reducible refine go_fldA ?_
  | ((with_reducible refine go_augF (C := ?C) (fs := ?fs) (i := ?i) ?h ?hm ?hl ?hz ?hq); (case h => walk_at "cell"); (case hm => walk_at "mem"); (case hl => walk_at "lkf"); (case hz => walk_at "lt"))
  | with_reducible refine go_vBm ?_ | ((with_reducible refine go_isLR (ds := ?ds) ?h ?hq); (case h => walk_at "cell"))
  | ((with_reducible refine go_appD (ds := ?ds) ?h ?hz ?hq); (case h => walk_at "cell"); try (case hz => walk_at "lt"))
  | with_reducible refine go_vBd ?_ | ((with_reducible refine go_isDR (kvs := ?kvs) (k := ?k) ?h ?hq); (case h => walk_at "cell"))
  | with_reducible refine go_dnew ?_ | with_reducible refine go_toRefD ?_
  | with_reducible refine go_isN1 ?_ | with_reducible refine go_isN2 ?_ | with_reducible refine go_isN3 ?_ | with_reducible refine go_isN4 ?_ | with_reducible refine go_isN5 ?_ | with_reducible refine go_isN6 ?_
  | with_reducible refine go_isntN1 ?_ | with_reducible refine go_isntN2 ?_ | with_reducible refine go_isntN3 ?_ | with_reducible refine go_isntN4 ?_ | with_reducible refine go_isntN5 ?_ | with_reducible refine go_isntN6 ?_
  | ((with_reducible refine go_lenR (ds := ?ds) ?h ?hq); (case h => walk_at "cell"))
  | ((with_reducible refine go_lenRD (kvs := ?kvs) ?h ?hq); (case h => walk_at "cell"))
  | ((with_reducible refine go_tupR (ds := ?ds) ?h ?hq); (case h => walk_at "cell")) | ((with_reducible refine go_listR (ds := ?ds) ?h ?hq); (case h => walk_at "cell"))
  | ((with_reducible refine go_ixS (t := ?tt) (kvs := ?kvs) (d := ?d) ?h ?hl ?hq); (case h => walk_at "cell"); (case hl => walk_at "lkd"))
  | ((with_reducible refine go_setRS (kvs := ?kvs) (kvs' := ?kv2) ?h ?hz ?he ?hq); (case h => walk_at "cell"); (case hz => walk_at "lt"); (case he => walk_at "ndp"))
  | ((with_reducible refine go_disp ?hq)) | ((with_reducible refine go_ds (kvs := ?kvs) ?l ?e ?hq); (case l => exact rfl); (case e => (simp only [zipS_cons, zipS_nil]; exact rfl)))
  | ((with_reducible refine go_ixR (ds := ?ds) (d := ?d) ?h ?hi ?hq); (case h => walk_at "cell"); (case hi => exact rfl))
  | ((with_reducible refine go_setRL (ds := ?ds) (k := ?k) ?h ?hi ?hq); (case h => walk_at "cell"); (case hi => exact rfl))
  | fail)
local macro_rules | `(tactic| walk_at "lt") => `(tactic| first
  | (simp only [List.length_cons, List.length_nil, Nat.reduceAdd, Nat.reduceLTLE, Nat.reduceLeDiff]; done) | walk_at "len")
local macro_rules | `(tactic| walk_at "ev1b") => `(tactic| first
  | walk_at "ev0"
  | with_reducible refine go_seq ?_ | with_reducible refine go_c ?_ | with_reducible refine go_v2 ?_ | with_reducible refine go_vCons ?_ | with_reducible refine go_vNil ?_ | with_reducible refine go_vA ?_
  | ((with_reducible refine go_name (d := ?d) ?hh ?hq); (case hh => exact rfl))
  | with_reducible refine go_set ?_ | with_reducible refine go_if ?_ | with_reducible refine go_vB ?_ | with_reducible refine go_ret ?_ | with_reducible refine go_bl ?_ | with_reducible refine go_in ?_ | with_reducible refine go_in2 ?_
  | with_reducible refine go_add ?_ | with_reducible refine go_sub ?_ | with_reducible refine go_neg ?_
  | with_reducible refine go_lt ?_ | with_reducible refine go_le ?_ | with_reducible refine go_gt ?_ | with_reducible refine go_ge ?_ | with_reducible refine go_eqI ?_ | with_reducible refine go_neI ?_ | with_reducible refine go_eqS ?_ | with_reducible refine go_neS ?_ | with_reducible refine go_isB ?_ | with_reducible refine go_isntB ?_
  | with_reducible refine go_vNot ?_ | with_reducible refine go_vAnd ?_ | with_reducible refine go_vOr ?_ | with_reducible refine go_vAndV ?_ | with_reducible refine go_vOrV ?_ | with_reducible refine go_vNotV ?_ | with_reducible refine go_vIf ?_ | with_reducible refine go_chain ?_
  | with_reducible refine go_vFrz ?_ | with_reducible refine go_vRef ?_ | with_reducible refine go_vSl ?_ | with_reducible refine go_frz ?_ | with_reducible refine go_frz2 ?_ | with_reducible refine go_toRef ?_
  | ((with_reducible refine go_mkTup ?hn ?hq); (case hn => walk_at "len"))
  | ((with_reducible refine go_mkLst ?hn ?hq); (case hn => walk_at "len"))
  | with_reducible refine go_setS ?_ | with_reducible refine go_asg ?_ | ((with_reducible refine go_pat (bs := ?bs) ?hh ?hq); (case hh => exact rfl)) | with_reducible refine go_subR ?_
  | with_reducible refine go_nil ?_ | with_reducible refine go_retN ?_ | with_reducible refine go_expr ?_ | with_reducible refine go_v1 ?_ | with_reducible refine go_for ?_
  | ((with_reducible refine go_appN (ds := ?ds) ?hh ?hn ?hq); (case hh => exact rfl); try (case hn => (first | (simp only [List.length_cons, List.length_nil, Nat.reduceAdd, Nat.reduceLTLE, Nat.reduceLeDiff]; done) | walk_at "len"))) | ((with_reducible refine go_ixO (ds := ?ds) ?hh ?hq); (case hh => exact rfl)) | ((with_reducible refine go_lenO (ds := ?ds) ?hh ?hq); (case hh => exact rfl))
  | ((with_reducible refine go_frzO (ds := ?ds) ?hh ?hq); (case hh => exact rfl)) | ((with_reducible refine go_frzV (d := ?d) ?hh ?hq); (case hh => exact rfl))
  | with_reducible refine go_seqL ?_ | with_reducible refine go_seqT ?_ | with_reducible refine go_abs ?_ | with_reducible refine go_max2 ?_ | with_reducible refine go_min2 ?_ | with_reducible refine go_intI ?_ | with_reducible refine go_intB ?_
  | with_reducible refine go_lenL ?_ | with_reducible refine go_lenT ?_ | with_reducible refine go_lenC ?_ | with_reducible refine go_listL ?_ | with_reducible refine go_listT ?_ | with_reducible refine go_tupL ?_ | with_reducible refine go_tupT ?_
  | ((with_reducible refine go_isiT (a := ?a) ?hh ?hT ?hb ?hq); (case hh => exact rfl); (case hT => decide); (case hb => decide +kernel)) | ((with_reducible refine go_isiF (a := ?a) ?hh ?hT ?hb ?hq); (case hh => exact rfl); (case hT => decide); (case hb => decide +kernel))
  | ((with_reducible refine go_isi2T (a := ?a) ?hh ?hT ?hb ?hq); (case hh => exact rfl); (case hT => decide); (case hb => decide +kernel)) | ((with_reducible refine go_isi2F (a := ?a) ?hh ?hT ?hb ?hq); (case hh => exact rfl); (case hT => decide); (case hb => decide +kernel))
  | with_reducible refine go_revL ?_ | with_reducible refine go_revT ?_ | with_reducible refine go_noP ?_ | with_reducible refine go_soP ?_ | with_reducible refine go_slice ?_
  | ((with_reducible refine go_ix (d := ?d) ?hh ?hq); (case hh => first | assumption | exact rfl))
  | ((with_reducible refine go_mod ?hn ?hq); try (case hn => first | decide | omega)) | ((with_reducible refine go_fdiv ?hn ?hm ?hq); try (case hn => first | decide | omega); try (case hm => first | decide | assumption | exact lg1 (by omega)))
  | with_reducible refine go_mul9 ?_ | ((with_reducible refine go_mul ?hn ?hq); try (case hn => first | decide | assumption | (exact lg2 (by omega) (by omega)))) | with_reducible refine go_pow8 ?_ | with_reducible refine go_mul9 ?_ | ((with_reducible refine go_pow ?hn ?hm ?hq); try (case hn => decide); try (case hm => first | decide | assumption))
  | with_reducible refine go_fn1 ?_ | with_reducible refine go_fn2 ?_ | with_reducible refine go_fn3 ?_ | with_reducible refine go_fn4 ?_ | with_reducible refine go_fn5 ?_ | with_reducible refine go_fn6 ?_
  | ((with_reducible refine go_addSL ?hn ?hq); (case hn => first | (simp only [List.length_cons, List.length_nil, List.length_append]; omega) | omega))
  | ((with_reducible refine go_kdIx (f := ?f) ?hh ?hq); (case hh => exact rfl)) | with_reducible refine go_kdIn ?_
  | ((with_reducible refine go_callL (y := ?y) (ps := ?ps) (F := ?F) ?hh ?ht ?hq); (case hh => exact rfl); (case ht => repeat (first | with_reducible exact tab_hd | with_reducible refine tab_tl (by decide +kernel) ?_)))
  | ((with_reducible refine go_lenEq ?hh ?hq); (case hh => exact rfl))
  | ((with_reducible refine go_star (ds := ?ds) (bs := ?bs) ?hd ?hb ?hh ?hq); (case hd => exact rfl); (case hb => (simp only [List.length_cons, List.length_nil]; omega)); (case hh => exact rfl))
  | ((with_reducible refine go_lrng2 ?hn ?hq); (case hn => omega)) | ((with_reducible refine go_lrng1 ?hn ?hq); (case hn => omega))
  | ((with_reducible refine go_rep ?h1 ?h2 ?h3 ?hq); (case h1 => simp); (case h2 => omega); (case h3 => (simp only [List.length_cons, List.length_nil]; omega)))
  | with_reducible refine go_slT ?_ | with_reducible refine go_slL ?_ | with_reducible refine go_addCT (by omega) ?_ | with_reducible refine go_addCL (by omega) ?_
  | with_reducible refine go_tt ?_ | with_reducible refine go_ff ?_ | with_reducible refine go_ntt ?_ | with_reducible refine go_nff ?_
  | ((with_reducible refine go_dt ?hp ?hq); (case hp => first | (with_reducible rfl) | omega | decide | decide +kernel)) | ((with_reducible refine go_df ?hp ?hq); (case hp => first | (with_reducible rfl) | omega | decide | decide +kernel)) | with_reducible refine go_d (fun hc => ?_) (fun hc => ?_)
  | ((with_reducible refine go_ndt ?hp ?hq); (case hp => first | (with_reducible rfl) | omega | decide | decide +kernel)) | ((with_reducible refine go_ndf ?hp ?hq); (case hp => first | (with_reducible rfl) | omega | decide | decide +kernel)) | with_reducible refine go_nd (fun hc => ?_) (fun hc => ?_)
  | (with_reducible refine And.intro (fun hc => ?_) (fun hc => ?_))
  | walk_at "ev2")
local macro_rules | `(tactic| walk_at "nm") => `(tactic| ((with_reducible refine go_nm (env' := ?en) ?hh ?hq); (case hh => first | (dsimp only [List.set, bindE, setAll, List.foldl, List.map, List.cons_append, List.nil_append, List.replicate, wipeE]; exact rfl) | exact rfl)))
local macro_rules | `(tactic| walk_at "ev1") => `(tactic| first | walk_at "nm" | walk_at "ev1b")
local macro_rules | `(tactic| walk_at "ev") => `(tactic| repeat' walk_at "ev1")
local macro_rules | `(tactic| walk_at "evs") => `(tactic| ((try walk_at "nm"); repeat' walk_at "ev1b"))

local macro_rules | `(tactic| walk_at "ev2") => `(tactic| first
  | (with_reducible refine draw ‹_› (by omega) (by omega) (by omega) fun r st1 r0 r1 h1 hl => ?_)
  | with_reducible refine go_pick (by omega) (by first | omega | (simp only [List.length_cons, List.length_nil]; omega)) ?_ | with_reducible refine go_pickT (by omega) (by first | omega | (simp only [List.length_cons, List.length_nil]; omega)) ?_
  | with_reducible refine all_mem1 ?_ ?_ | with_reducible exact all_mem0
  | walk_at "evo")

local macro_rules | `(tactic| walk_at "ev0") => `(tactic| first
  | with_reducible refine toRefU ‹_› fun p st1 hu => ?_
  | with_reducible refine toRefDU ‹_› fun p st1 hu => ?_
  | with_reducible refine go_pickW (by omega) (by walk_at "lt") (by decide +kernel) fun w gw => ?_)


def isWd : D → Bool
  | .str w => W3.any fun x => x == w
  | _ => false
def areW (many : Int) : D → Bool
  | .tup xs => decide ((xs.length : Int) = many) && xs.all isWd
  | _ => false
def rowB (lo hi : Int) : D → Bool
  | .tup xs => decide (lo ≤ (xs.length : Int)) && decide ((xs.length : Int) ≤ hi)
  | _ => false
theorem areW_tup {many : Int} {xs : List D} : areW many (.tup xs) = (decide ((xs.length : Int) = many) && xs.all isWd) := rfl
theorem wds_of : ∀ {xs : List D}, xs.all isWd = true → ∃ ws : List Str, xs = ws.map D.str ∧ ∀ w ∈ ws, w ∈ W3
  | [], _ => ⟨[], rfl, fun _ h => nomatch h⟩
  | x :: xs, h => by
    rw [List.all_cons, Bool.and_eq_true] at h
    obtain ⟨ws, e, hw⟩ := wds_of h.2
    cases x with
    | str w =>
      refine ⟨w :: ws, by rw [e]; rfl, fun z hz => ?_⟩
      rcases List.mem_cons.mp hz with rfl | hz
      · have h1 := h.1
        unfold isWd at h1
        obtain ⟨y, hy, e2⟩ := List.any_eq_true.mp h1
        rw [← eq_of_beq e2]
        exact hy
      · exact hw z hz
    | _ => exact Bool.noConfusion h.1
theorem isWd_str {w : Str} (h : w ∈ W3) : isWd (.str w) = true := List.any_eq_true.mpr ⟨w, h, beq_self_eq_true _⟩
theorem areW_of {ws : List Str} {k : Int} (hl : (ws.length : Int) = k) (hw : ∀ w ∈ ws, w ∈ W3) : areW k (.tup (ws.map .str)) = true := by
  rw [areW_tup, List.length_map, decide_eq_true hl, Bool.true_and]
  refine List.all_eq_true.mpr fun d hd => ?_
  obtain ⟨w, h, rfl⟩ := List.mem_map.mp hd
  exact isWd_str (hw w h)
section
variable {st : Store} {P : D → Store → Prop} {N n nw : Nat} {w : D} {many : Int}
theorem go_is_rowC {lo hi : Int} (h : pl N w = true) (q : P (.bl (rowB lo hi w)) st) : (F_is_row [w, .int lo, .int hi] st).holds E P := by
  unfold F_is_row
  refine go_fn rfl ?_
  unfold B_is_row
  cases w <;> first | (exfalso; unfold pl at h; exact Bool.noConfusion h) | walk_at "ev"
  all_goals first | exact q | (unfold rowB at q; simp only [*, decide_true, decide_false, Bool.true_and, Bool.false_and] at q ⊢; exact q)
theorem go_are_words (g : Gd N n nw w) (hw : nw ≤ 1000) (q : P (.bl (areW many w)) st) : (F_are_words [w, .int many] st).holds E P := by
  unfold F_are_words
  with_reducible refine go_fn (n := 2) (by simp only [List.length_cons, List.length_nil]) ?_
  unfold B_are_words
  have gp := g.1
  walk_at "ev"
  with_reducible refine go_is_rowC gp ?_
  cases w <;> first | (exfalso; unfold pl at gp; exact Bool.noConfusion gp) | (unfold rowB; walk_at "ev"; exact q) | skip
  rename_i xs
  have e0 : rowB many many (.tup xs) = (decide (many ≤ (xs.length : Int)) && decide ((xs.length : Int) ≤ many)) := rfl
  rw [e0]
  have e1 : areW many (.tup xs) = (decide ((xs.length : Int) = many) && xs.all isWd) := rfl
  rw [e1] at q
  have gs : Gds N n nw xs := by
    refine ⟨?_, ?_, ?_⟩
    · have h := g.1
      unfold pl at h
      exact h
    · have h := g.2.1
      unfold dep at h
      omega
    · have h := g.2.2
      unfold wt at h
      exact h
  have hlen := gs.len
  by_cases hl : (xs.length : Int) = many
  · have e2 : (decide (many ≤ (xs.length : Int)) && decide ((xs.length : Int) ≤ many)) = true := by
      rw [decide_eq_true (by omega), decide_eq_true (by omega)]
      rfl
    rw [decide_eq_true hl, Bool.true_and] at q
    rw [e2]
    walk_at "ev"
    with_reducible refine go_vLc (fun _ => true) (fun x => .bl (isWd x)) ?_
    walk_at "ev"
    with_reducible refine ⟨fun x hx => ?_, ?_⟩
    · have gx := (Gds.mem gs hx).1
      refine ⟨_, rfl, ⟨rfl, rfl⟩, fun _ => ?_⟩
      cases x <;> first | (exfalso; unfold pl at gx; exact Bool.noConfusion gx) | (walk_at "ev"; exact ⟨rfl, rfl⟩)
    · have e3 : (xs.filter fun _ => true).map (fun x => D.bl (isWd x)) = xs.map fun x => D.bl (isWd x) := by rw [List.filter_eq_self.mpr fun _ _ => rfl]
      rw [e3]
      walk_at "ev"
      with_reducible refine all_M ?_
      exact q
  · have e2 : (decide (many ≤ (xs.length : Int)) && decide ((xs.length : Int) ≤ many)) = false := by
      by_cases h1 : many ≤ (xs.length : Int)
      · rw [decide_eq_true h1, decide_eq_false (by omega)]
        rfl
      · rw [decide_eq_false h1]
        rfl
    rw [decide_eq_false hl, Bool.false_and] at q
    rw [e2]
    walk_at "ev"
    exact q
end
section
variable {L : List (Nat × SObj)} {B u : Nat} {st : Store} {P : D → Store → Prop} {k c d : Nat} {t p : Int} {now own ph kd : Str} {told told' : List Str} {as : List Int}
theorem sil_ne {x : Int} {xs as : List Int} {k : Nat} (h : silI k as = x :: xs) : silI k as ≠ [] := by
  rw [h]
  exact fun z => nomatch z
theorem go_lookA {phs : List Str} {ys : List D} (hy : strsOf ys = some phs) (h : st[c]? = some (CHF k t now own told d)) (hd : st[d]? = some (AGC as)) (hk : k ≤ 100)
    (q : (phs.any fun w => w == now) = true → silI k as = [] → P .non st) (qe : ¬ ((phs.any fun w => w == now) = true ∧ silI k as = []) → E ⟨"NotAgreed", [("missing", .tup (IL (silI k as))), ("now", .str now)]⟩ st) : (F_Chief_look_agreed [.ref c, .tup ys] st).holds E P := by
  unfold F_Chief_look_agreed
  with_reducible refine go_fn (n := 2) (by simp only [List.length_cons, List.length_nil]) ?_
  unfold B_Chief_look_agreed
  walk_at "ev"
  with_reducible refine go_notinT hy ?_
  cases hph : phs.any fun w => w == now with
  | true =>
    walk_at "ev"
    with_reducible refine go_chief_silent h hd hk ?_
    walk_at "ev"
    with_reducible refine go_neE (gd_sil hk) ?_
    cases hs : silI k as with
    | nil =>
      have e0 : (!(IL ([] : List Int)).isEmpty) = false := rfl
      rw [e0]
      walk_at "ev"
      exact q hph hs
    | cons x xs =>
      have e0 : (!(IL (x :: xs)).isEmpty) = true := rfl
      rw [e0]
      walk_at "ev"
      with_reducible refine go_raise ?_
      walk_at "ev"
      with_reducible refine go_chief_silent h hd hk ?_
      walk_at "ev"
      exact qe fun z => sil_ne hs z.2
  | false =>
    walk_at "ev"
    with_reducible refine go_raise ?_
    walk_at "ev"
    with_reducible refine go_chief_silent h hd hk ?_
    walk_at "ev"
    exact qe fun z => by
      rw [hph] at z
      exact nomatch z.1
theorem any2 {a b now : Str} : (([a, b] : List Str).any fun w => w == now) = true ↔ now = a ∨ now = b := by
  rw [List.any_cons, List.any_cons, List.any_nil, Bool.or_false, Bool.or_eq_true, beq_iff_eq, beq_iff_eq]
  exact ⟨fun h => h.imp Eq.symm Eq.symm, fun h => h.imp Eq.symm Eq.symm⟩
theorem any1 {a now : Str} : (([a] : List Str).any fun w => w == now) = true ↔ now = a := by
  rw [List.any_cons, List.any_nil, Bool.or_false, beq_iff_eq]
  exact ⟨Eq.symm, Eq.symm⟩
theorem go_chief_ask (hu : UrnL ((c, CHF k t now own told d) :: (d, AGC as) :: L) B st u) (hk : 1 ≤ k ∧ k ≤ 100) (ht : told.length = k + 1)
    (q : now = "dealt" → silI k as = [] → ∀ d' st', UrnL ((c, CHF k (t + 1) "asking" own (List.replicate (k + 1) "hold") d') :: (d', AGC []) :: (d, AGC as) :: L) B st' u → P .non st')
    (qe : ¬ (now = "dealt" ∧ silI k as = []) → E ⟨"NotAgreed", [("missing", .tup (IL (silI k as))), ("now", .str now)]⟩ st) : (F_Chief_ask [.ref c] st).holds E P := by
  unfold F_Chief_ask
  with_reducible refine go_fn (n := 1) (by simp only [List.length_cons, List.length_nil]) ?_
  unfold B_Chief_ask
  have hc := hu.any (i := 0) rfl
  have hd := hu.any (i := 1) rfl
  walk_at "ev"
  with_reducible refine go_lookA (phs := ["dealt"]) rfl hc hd hk.2 (fun h1 h2 => ?_) (fun h => qe (mt (fun z => ⟨any1.mpr z.1, z.2⟩) h))
  have et : (List.replicate ((k + 1 : Nat) : Int).toNat [D.str "hold"]).flatten = (List.replicate (k + 1) (Str.ofString "hold")).map D.str := by
    rw [show (((k + 1 : Nat) : Int)).toNat = k + 1 by omega]
    exact repl_str (k + 1)
  walk_at "ev"
  rw [List.length_map, ht]
  walk_at "ev"
  rw [et]
  exact go_begin hu fun d' st' h => q (any1.mp h1) h2 d' st' h
theorem go_chief_clear (hu : UrnL ((c, CHF k t now own told d) :: (d, AGC as) :: L) B st u) (hk : 1 ≤ k ∧ k ≤ 100) (ht : told.length = k + 1)
    (q : (now = "dealt" ∨ now = "held") → silI k as = [] → ∀ d' st', UrnL ((c, CHF k (t + 1) "clearing" "free" (List.replicate (k + 1) "free") d') :: (d', AGC []) :: (d, AGC as) :: L) B st' u → P .non st')
    (qe : ¬ ((now = "dealt" ∨ now = "held") ∧ silI k as = []) → E ⟨"NotAgreed", [("missing", .tup (IL (silI k as))), ("now", .str now)]⟩ st) : (F_Chief_clear [.ref c] st).holds E P := by
  unfold F_Chief_clear
  with_reducible refine go_fn (n := 1) (by simp only [List.length_cons, List.length_nil]) ?_
  unfold B_Chief_clear
  have hc := hu.any (i := 0) rfl
  have hd := hu.any (i := 1) rfl
  walk_at "ev"
  with_reducible refine go_lookA (phs := ["dealt", "held"]) rfl hc hd hk.2 (fun h1 h2 => ?_) (fun h => qe (mt (fun z => ⟨any2.mpr z.1, z.2⟩) h))
  have et : (List.replicate ((k + 1 : Nat) : Int).toNat [D.str "free"]).flatten = (List.replicate (k + 1) (Str.ofString "free")).map D.str := by
    rw [show (((k + 1 : Nat) : Int)).toNat = k + 1 by omega]
    exact repl_str (k + 1)
  walk_at "ev"
  rw [List.length_map, ht]
  walk_at "ev"
  rw [et]
  with_reducible refine go_begin hu fun d' st' h => ?_
  have hc2 := h.any (i := 0) rfl
  have h2' := h.put (i := 0) (o' := CHF k (t + 1) "clearing" "free" (List.replicate (k + 1) "free") d') rfl
  walk_at "ev"
  exact q (any2.mp h1) h2 d' _ h2'
theorem go_chief_deal {w : D} {N n wt : Nat} (hu : UrnL ((c, CHF k t now own told d) :: (d, AGC as) :: L) B st u) (hk : 1 ≤ k ∧ k ≤ 100) (ht : told.length = k + 1) (g : Gd N n wt w) (hw : wt ≤ 1000)
    (q : ∀ ws, w = .tup (ws.map .str) → ws.length = k + 1 → (∀ x ∈ ws, x ∈ W3) → (now = "clear" ∨ now = "held") → silI k as = [] → ∀ d' st', UrnL ((c, CHF k (t + 1) "dealt" (ws.headD "") ws d') :: (d', AGC []) :: (d, AGC as) :: L) B st' u → P .non st')
    (qw : areW (k + 1) w = false → E ⟨"NoWords", [("told", w)]⟩ st)
    (qe : areW (k + 1) w = true → ¬ ((now = "clear" ∨ now = "held") ∧ silI k as = []) → E ⟨"NotAgreed", [("missing", .tup (IL (silI k as))), ("now", .str now)]⟩ st) : (F_Chief_deal [.ref c, w] st).holds E P := by
  unfold F_Chief_deal
  with_reducible refine go_fn (n := 2) (by simp only [List.length_cons, List.length_nil]) ?_
  unfold B_Chief_deal
  have hc := hu.any (i := 0) rfl
  have hd := hu.any (i := 1) rfl
  walk_at "ev"
  with_reducible refine go_are_words g hw ?_
  rw [List.length_map, ht, show (((k + 1 : Nat) : Int)) = (k : Int) + 1 by omega]
  cases hA : areW (k + 1) w with
  | false =>
    walk_at "ev"
    with_reducible refine go_raise ?_
    walk_at "ev"
    exact qw hA
  | true =>
    walk_at "ev"
    with_reducible refine go_lookA (phs := ["clear", "held"]) rfl hc hd hk.2 (fun h1 h2 => ?_) (fun h => qe hA (mt (fun z => ⟨any2.mpr z.1, z.2⟩) h))
    cases w <;> first | exact Bool.noConfusion hA | skip
    rename_i xs
    rw [areW_tup, Bool.and_eq_true] at hA
    obtain ⟨ws, rfl, hws⟩ := wds_of hA.2
    have hlen : ws.length = k + 1 := by
      have := of_decide_eq_true hA.1
      rw [List.length_map] at this
      omega
    walk_at "ev"
    with_reducible refine go_begin hu fun d' st' h => ?_
    have hc2 := h.any (i := 0) rfl
    have h2' := h.put (i := 0) (o' := CHF k (t + 1) "dealt" (ws.headD "") ws d') rfl
    have hat : atD st' (.tup (ws.map D.str)) 0 = some (.str (ws.headD "")) := by
      have e := at_told (st := st') (told := ws) (p := 0) (by decide) (by omega)
      rw [e]
      cases ws with
      | nil => exact absurd hlen (by simp)
      | cons x xs => rfl
    walk_at "ev"
    exact q ws rfl hlen hws (any2.mp h1) h2 d' _ h2'
theorem str_inj : ∀ {ws vs : List Str}, ws.map D.str = vs.map D.str → ws = vs
  | [], [], _ => rfl
  | [], _ :: _, h => nomatch h
  | _ :: _, [], h => nomatch h
  | a :: ws, b :: vs, h => by
    rw [List.map_cons, List.map_cons] at h
    injection h with h1 h2
    injection h1 with h1
    rw [h1, str_inj h2]
theorem go_deal_ok {ws : List Str} (hu : UrnL ((c, CHF k t now own told d) :: (d, AGC as) :: L) B st u) (hk : 1 ≤ k ∧ k ≤ 10) (ht : told.length = k + 1) (hl : ws.length = k + 1) (hw : ∀ w ∈ ws, w ∈ W3) (hn : now = "clear" ∨ now = "held") (hs : silI k as = [])
    (q : ∀ d' st', UrnL ((c, CHF k (t + 1) "dealt" (ws.headD "") ws d') :: (d', AGC []) :: (d, AGC as) :: L) B st' u → P .non st') : (F_Chief_deal [.ref c, .tup (ws.map .str)] st).holds E P := by
  refine go_chief_deal hu ⟨hk.1, by omega⟩ ht ((Gd.tup (N := 10 ^ 12) (gds_w4 fun w h => w34 (hw w h))).le (Nat.le_refl _) (Nat.le_refl _)) (by omega) (fun ws' e l' w' hn' hs' d' st' h => ?_) (fun h => ?_) (fun _ h => absurd ⟨hn, hs⟩ h)
  · have e2 : ws = ws' := str_inj (by injection e)
    subst e2
    exact q d' st' h
  · have := areW_of (k := (k : Int) + 1) (by omega) hw
    rw [this] at h
    exact nomatch h
theorem go_ask_ok (hu : UrnL ((c, CHF k t now own told d) :: (d, AGC as) :: L) B st u) (hk : 1 ≤ k ∧ k ≤ 10) (ht : told.length = k + 1) (hn : now = "dealt") (hs : silI k as = [])
    (q : ∀ d' st', UrnL ((c, CHF k (t + 1) "asking" own (List.replicate (k + 1) "hold") d') :: (d', AGC []) :: (d, AGC as) :: L) B st' u → P .non st') : (F_Chief_ask [.ref c] st).holds E P :=
  go_chief_ask hu ⟨hk.1, by omega⟩ ht (fun _ _ => q) fun h => absurd ⟨hn, hs⟩ h
theorem go_clear_ok (hu : UrnL ((c, CHF k t now own told d) :: (d, AGC as) :: L) B st u) (hk : 1 ≤ k ∧ k ≤ 10) (ht : told.length = k + 1) (hn : now = "dealt" ∨ now = "held") (hs : silI k as = [])
    (q : ∀ d' st', UrnL ((c, CHF k (t + 1) "clearing" "free" (List.replicate (k + 1) "free") d') :: (d', AGC []) :: (d, AGC as) :: L) B st' u → P .non st') : (F_Chief_clear [.ref c] st).holds E P :=
  go_chief_clear hu ⟨hk.1, by omega⟩ ht (fun _ _ => q) fun h => absurd ⟨hn, hs⟩ h
end
end LAW

set_option maxRecDepth 100000
set_option autoImplicit false
set_option maxHeartbeats 2000000
set_option linter.all false
set_option pp.maxSteps 3000
set_option pp.deepTerms false
namespace LAW
open PySem EV L2 PyProof.Rows
variable {E : ErP} {Ee : ErS}
local macro_rules | `(tactic| walk_at "gdl") => `(tactic| first
  | with_reducible exact Gd.fitw gd_non (by decide) | with_reducible exact Gd.fitw gd_bl (by decide)
  | ((with_reducible refine Gd.fitw (gd_int ?h) ?c); (case h => omega); (case c => decide))
  | ((with_reducible refine Gd.fit (N := ?N) (n := ?n) (w := ?w) ?h ?a ?b ?c); (case h => assumption); (case a => decide); (case b => decide); (case c => decide))
  | ((with_reducible refine Gd.fitw (gd_str (w := 50) ?h ?hw) ?c); (case h => decide +kernel); (case hw => decide +kernel); (case c => decide)))
local macro_rules | `(tactic| walk_at "gd") => `(tactic| first
  | walk_at "gdl"
  | ((with_reducible refine Gd.tupP ?h ?q); (case h => decide); (case q => walk_at "gds")) | ((with_reducible refine Gd.lstP ?h ?q); (case h => decide); (case q => walk_at "gds")))
local macro_rules | `(tactic| walk_at "gds") => `(tactic| first
  | with_reducible exact Gds.nil
  | ((with_reducible refine Gds.consL ?h1 ?h3 ?h2); (case h1 => walk_at "gdl"); (case h3 => decide); (case h2 => walk_at "gds"))
  | ((with_reducible refine Gds.consH ?h1 ?h3 ?h2); (case h1 => walk_at "gd"); (case h3 => decide); (case h2 => walk_at "gds")))
local macro_rules | `(tactic| walk_at "shw") => `(tactic| ((with_reducible refine go_shw (N := 10 ^ 12) (n := 64) (w := 1000000) ?h (Nat.le_refl _) (Nat.le_refl _) (Nat.le_refl _) ?hq); (case h => walk_at "gd")))
local macro_rules | `(tactic| walk_at "same") => `(tactic| first
  | ((with_reducible refine go_neG ?h ?hq); (case h => walk_at "gd")) | ((with_reducible refine go_eqG ?h ?hq); (case h => walk_at "gd")))
local macro_rules | `(tactic| walk_at "len") => `(tactic| first
  | (simp only [List.length_cons, List.length_nil, Nat.reduceAdd, Nat.reduceLeDiff]; done)
  | (simp only [List.length_cons, List.length_nil, List.length_append, List.length_map]; omega) | omega)
local macro_rules | `(tactic| walk_at "cell") => `(tactic| first
  | assumption
  | ((with_reducible refine get_set (o := ?oo) ?hh); (case hh => walk_at "cell"))
  | exact UrnL.get ‹_› (by repeat' (first | with_reducible exact List.mem_cons_self | with_reducible refine List.mem_cons_of_mem _ ?_)))
local macro_rules | `(tactic| walk_at "lkf") => `(tactic| repeat (first | with_reducible exact lkF_nil | with_reducible exact lkF_hd | with_reducible refine lkF_tl (by decide +kernel) ?_))
local macro_rules | `(tactic| walk_at "tab") => `(tactic| repeat (first | with_reducible exact tab_hd | with_reducible refine tab_tl (by decide +kernel) ?_))
local macro_rules | `(tactic| walk_at "lkd") => `(tactic| repeat (first | with_reducible exact lkd_hd | with_reducible refine lkd_tl (by decide +kernel) ?_))
local macro_rules | `(tactic| walk_at "ndp") => `(tactic| first | with_reducible exact nd_hd | ((with_reducible refine nd_tl (r' := ?r2) ?hd ?hq); (case hd => decide +kernel); (case hq => walk_at "ndp")))
local macro_rules | `(tactic| walk_at "mem") => `(tactic| repeat (first | with_reducible exact List.mem_cons_self | with_reducible refine List.mem_cons_of_mem _ ?_))
local macro_rules | `(tactic| walk_at "evo") => `(tactic| first
  | ((with_reducible refine go_le1000 ?h ?hq); (case h => walk_at "len"))
  | ((with_reducible refine go_isiR (ds := ?ds) ?h ?hq); (case h => walk_at "cell")) | with_reducible refine go_par ?_ | with_reducible refine go_par2 ?_ | with_reducible refine go_vLock ?_ | ((with_reducible refine go_lockR (ds := ?ds) ?h ?hq); (case h => walk_at "cell"))
  | ((with_reducible refine go_addL ?h ?hq); (case h => walk_at "len")) | ((with_reducible refine go_addT ?h ?hq); (case h => walk_at "len"))
  | with_reducible refine go_enumL ?_ | with_reducible refine go_enumT ?_ | with_reducible refine go_zipL ?_ | with_reducible refine go_zipT ?_ | with_reducible refine go_revdL ?_ | with_reducible refine go_revdT ?_
  | ((with_reducible refine go_gTpK ?hl ?hq); (case hl => exact rfl)) | with_reducible refine go_inK ?_
  | with_reducible refine go_par3 ?_ | with_reducible refine go_par3e ?_ | ((with_reducible refine go_ext (ds := ?ds) ?h ?hq); (case h => exact rfl)) | ((with_reducible refine go_ext1 ?h ?hq); (case h => walk_at "len"))
  | with_reducible refine go_vMeth ?_ | ((with_reducible refine go_mlen ?h ?hq); (case h => exact rfl))
  | with_reducible refine lcp_nil ?_ | ((with_reducible refine lcp_consY (bs := ?bs) ?hb ?hq); (case hb => exact rfl)) | ((with_reducible refine lcp_cons (bs := ?bs) ?hb ?hq); (case hb => exact rfl))
  | ((with_reducible refine go_methD (C := ?C) (fs := ?fs) (ps := ?ps) (F := ?F) ?h ?hl ?ht ?hq); (case h => walk_at "cell"); (case hl => walk_at "lkf"); (case ht => walk_at "tab"))
  | ((with_reducible refine go_fld (C := ?C) (fs := ?fs) (d := ?d) ?h ?hm ?hl ?hq); (case h => walk_at "cell"); (case hm => walk_at "mem"); (case hl => walk_at "lkf"))
  | with_reducible refine go_gFld ?_ | with_reducible refine ns_hd ?_ | with_reducible refine ns_tl (by decide +kernel) ?_ | with_reducible refine ns_nil ?_
  | ((with_reducible refine go_setF (C := ?C) (fs := ?fs) ?h ?hm ?hz ?hq); (case h => walk_at "cell"); (case hm => walk_at "mem"); (case hz => walk_at "lt"))
  | ((with_reducible refine go_gTp ?hl ?hq); (case hl => exact rfl)) | with_reducible refine go_gsC ?_ | with_reducible refine go_gsN ?_ | with_reducible refine go_gN ?_
  | with_reducible refine go_fldA ?_
  | ((with_reducible refine go_augF (C := ?C) (fs := ?fs) (i := ?i) ?h ?hm ?hl ?hz ?hq); (case h => walk_at "cell"); (case hm => walk_at "mem"); (case hl => walk_at "lkf"); (case hz => walk_at "lt"))
  | with_reducible refine go_vBm ?_ | ((with_reducible refine go_isLR (ds := ?ds) ?h ?hq); (case h => walk_at "cell"))
  | ((with_reducible refine go_appD (ds := ?ds) ?h ?hz ?hq); (case h => walk_at "cell"); try (case hz => walk_at "lt"))
  | with_reducible refine go_vBd ?_ | ((with_reducible refine go_isDR (kvs := ?kvs) (k := ?k) ?h ?hq); (case h => walk_at "cell"))
  | with_reducible refine go_dnew ?_ | with_reducible refine go_toRefD ?_
  | with_reducible refine go_isN1 ?_ | with_reducible refine go_isN2 ?_ | with_reducible refine go_isN3 ?_ | with_reducible refine go_isN4 ?_ | with_reducible refine go_isN5 ?_ | with_reducible refine go_isN6 ?_
  | with_reducible refine go_isntN1 ?_ | with_reducible refine go_isntN2 ?_ | with_reducible refine go_isntN3 ?_ | with_reducible refine go_isntN4 ?_ | with_reducible refine go_isntN5 ?_ | with_reducible refine go_isntN6 ?_
  | ((with_reducible refine go_lenR (ds := ?ds) ?h ?hq); (case h => walk_at "cell"))
  | ((with_reducible refine go_lenRD (kvs := ?kvs) ?h ?hq); (case h => walk_at "cell"))
  | ((with_reducible refine go_tupR (ds := ?ds) ?h ?hq); (case h => walk_at "cell")) | ((with_reducible refine go_listR (ds := ?ds) ?h ?hq); (case h => walk_at "cell"))
  | ((with_reducible refine go_ixS (t := ?tt) (kvs := ?kvs) (d := ?d) ?h ?hl ?hq); (case h => walk_at "cell"); (case hl => walk_at "lkd"))
  | ((with_reducible refine go_setRS (kvs := ?kvs) (kvs' := ?kv2) ?h ?hz ?he ?hq); (case h => walk_at "cell"); (case hz => walk_at "lt"); (case he => walk_at "ndp"))
  | ((with_reducible refine go_disp ?hq)) | ((with_reducible refine go_ds (kvs := ?kvs) ?l ?e ?hq); (case l => exact rfl); (case e => (simp only [zipS_cons, zipS_nil]; exact rfl)))
  | ((with_reducible refine go_ixR (ds := ?ds) (d := ?d) ?h ?hi ?hq); (case h => walk_at "cell"); (case hi => exact rfl))
  | ((with_reducible refine go_setRL (ds := ?ds) (k := ?k) ?h ?hi ?hq); (case h => walk_at "cell"); (case hi => exact rfl))
  | fail)
local macro_rules | `(tactic| walk_at "lt") => `(tactic| first
  | (simp only [List.length_cons, List.length_nil, Nat.reduceAdd, Nat.reduceLTLE, Nat.reduceLeDiff]; done) | walk_at "len")
local macro_rules | `(tactic| walk_at "ev1b") => `(tactic| first
  | walk_at "ev0"
  | with_reducible refine go_seq ?_ | with_reducible refine go_c ?_ | with_reducible refine go_v2 ?_ | with_reducible refine go_vCons ?_ | with_reducible refine go_vNil ?_ | with_reducible refine go_vA ?_
  | ((with_reducible refine go_name (d := ?d) ?hh ?hq); (case hh => exact rfl))
  | with_reducible refine go_set ?_ | with_reducible refine go_if ?_ | with_reducible refine go_vB ?_ | with_reducible refine go_ret ?_ | with_reducible refine go_bl ?_ | with_reducible refine go_in ?_ | with_reducible refine go_in2 ?_
  | with_reducible refine go_add ?_ | with_reducible refine go_sub ?_ | with_reducible refine go_neg ?_
  | with_reducible refine go_lt ?_ | with_reducible refine go_le ?_ | with_reducible refine go_gt ?_ | with_reducible refine go_ge ?_ | with_reducible refine go_eqI ?_ | with_reducible refine go_neI ?_ | with_reducible refine go_eqS ?_ | with_reducible refine go_neS ?_ | with_reducible refine go_isB ?_ | with_reducible refine go_isntB ?_
  | with_reducible refine go_vNot ?_ | with_reducible refine go_vAnd ?_ | with_reducible refine go_vOr ?_ | with_reducible refine go_vAndV ?_ | with_reducible refine go_vOrV ?_ | with_reducible refine go_vNotV ?_ | with_reducible refine go_vIf ?_ | with_reducible refine go_chain ?_
  | with_reducible refine go_vFrz ?_ | with_reducible refine go_vRef ?_ | with_reducible refine go_vSl ?_ | with_reducible refine go_frz ?_ | with_reducible refine go_frz2 ?_ | with_reducible refine go_toRef ?_
  | ((with_reducible refine go_mkTup ?hn ?hq); (case hn => walk_at "len"))
  | ((with_reducible refine go_mkLst ?hn ?hq); (case hn => walk_at "len"))
  | with_reducible refine go_setS ?_ | with_reducible refine go_asg ?_ | ((with_reducible refine go_pat (bs := ?bs) ?hh ?hq); (case hh => exact rfl)) | with_reducible refine go_subR ?_
  | with_reducible refine go_nil ?_ | with_reducible refine go_retN ?_ | with_reducible refine go_expr ?_ | with_reducible refine go_v1 ?_ | with_reducible refine go_for ?_
  | ((with_reducible refine go_appN (ds := ?ds) ?hh ?hn ?hq); (case hh => exact rfl); try (case hn => (first | (simp only [List.length_cons, List.length_nil, Nat.reduceAdd, Nat.reduceLTLE, Nat.reduceLeDiff]; done) | walk_at "len"))) | ((with_reducible refine go_ixO (ds := ?ds) ?hh ?hq); (case hh => exact rfl)) | ((with_reducible refine go_lenO (ds := ?ds) ?hh ?hq); (case hh => exact rfl))
  | ((with_reducible refine go_frzO (ds := ?ds) ?hh ?hq); (case hh => exact rfl)) | ((with_reducible refine go_frzV (d := ?d) ?hh ?hq); (case hh => exact rfl))
  | with_reducible refine go_seqL ?_ | with_reducible refine go_seqT ?_ | with_reducible refine go_abs ?_ | with_reducible refine go_max2 ?_ | with_reducible refine go_min2 ?_ | with_reducible refine go_intI ?_ | with_reducible refine go_intB ?_
  | with_reducible refine go_lenL ?_ | with_reducible refine go_lenT ?_ | with_reducible refine go_lenC ?_ | with_reducible refine go_listL ?_ | with_reducible refine go_listT ?_ | with_reducible refine go_tupL ?_ | with_reducible refine go_tupT ?_
  | ((with_reducible refine go_isiT (a := ?a) ?hh ?hT ?hb ?hq); (case hh => exact rfl); (case hT => decide); (case hb => decide +kernel)) | ((with_reducible refine go_isiF (a := ?a) ?hh ?hT ?hb ?hq); (case hh => exact rfl); (case hT => decide); (case hb => decide +kernel))
  | ((with_reducible refine go_isi2T (a := ?a) ?hh ?hT ?hb ?hq); (case hh => exact rfl); (case hT => decide); (case hb => decide +kernel)) | ((with_reducible refine go_isi2F (a := ?a) ?hh ?hT ?hb ?hq); (case hh => exact rfl); (case hT => decide); (case hb => decide +kernel))
  | with_reducible refine go_revL ?_ | with_reducible refine go_revT ?_ | with_reducible refine go_noP ?_ | with_reducible refine go_soP ?_ | with_reducible refine go_slice ?_
  | ((with_reducible refine go_ix (d := ?d) ?hh ?hq); (case hh => first | assumption | exact rfl))
  | ((with_reducible refine go_mod ?hn ?hq); try (case hn => first | decide | omega)) | ((with_reducible refine go_fdiv ?hn ?hm ?hq); try (case hn => first | decide | omega); try (case hm => first | decide | assumption | exact lg1 (by omega)))
  | with_reducible refine go_mul9 ?_ | ((with_reducible refine go_mul ?hn ?hq); try (case hn => first | decide | assumption | (exact lg2 (by omega) (by omega)))) | with_reducible refine go_pow8 ?_ | with_reducible refine go_mul9 ?_ | ((with_reducible refine go_pow ?hn ?hm ?hq); try (case hn => decide); try (case hm => first | decide | assumption))
  | with_reducible refine go_fn1 ?_ | with_reducible refine go_fn2 ?_ | with_reducible refine go_fn3 ?_ | with_reducible refine go_fn4 ?_ | with_reducible refine go_fn5 ?_ | with_reducible refine go_fn6 ?_
  | ((with_reducible refine go_addSL ?hn ?hq); (case hn => first | (simp only [List.length_cons, List.length_nil, List.length_append]; omega) | omega))
  | ((with_reducible refine go_kdIx (f := ?f) ?hh ?hq); (case hh => exact rfl)) | with_reducible refine go_kdIn ?_
  | ((with_reducible refine go_callL (y := ?y) (ps := ?ps) (F := ?F) ?hh ?ht ?hq); (case hh => exact rfl); (case ht => repeat (first | with_reducible exact tab_hd | with_reducible refine tab_tl (by decide +kernel) ?_)))
  | ((with_reducible refine go_lenEq ?hh ?hq); (case hh => exact rfl))
  | ((with_reducible refine go_star (ds := ?ds) (bs := ?bs) ?hd ?hb ?hh ?hq); (case hd => exact rfl); (case hb => (simp only [List.length_cons, List.length_nil]; omega)); (case hh => exact rfl))
  | ((with_reducible refine go_lrng2 ?hn ?hq); (case hn => omega)) | ((with_reducible refine go_lrng1 ?hn ?hq); (case hn => omega))
  | ((with_reducible refine go_rep ?h1 ?h2 ?h3 ?hq); (case h1 => simp); (case h2 => omega); (case h3 => (simp only [List.length_cons, List.length_nil]; omega)))
  | with_reducible refine go_slT ?_ | with_reducible refine go_slL ?_ | with_reducible refine go_addCT (by omega) ?_ | with_reducible refine go_addCL (by omega) ?_
  | with_reducible refine go_tt ?_ | with_reducible refine go_ff ?_ | with_reducible refine go_ntt ?_ | with_reducible refine go_nff ?_
  | ((with_reducible refine go_dt ?hp ?hq); (case hp => first | (with_reducible rfl) | omega | decide | decide +kernel)) | ((with_reducible refine go_df ?hp ?hq); (case hp => first | (with_reducible rfl) | omega | decide | decide +kernel)) | with_reducible refine go_d (fun hc => ?_) (fun hc => ?_)
  | ((with_reducible refine go_ndt ?hp ?hq); (case hp => first | (with_reducible rfl) | omega | decide | decide +kernel)) | ((with_reducible refine go_ndf ?hp ?hq); (case hp => first | (with_reducible rfl) | omega | decide | decide +kernel)) | with_reducible refine go_nd (fun hc => ?_) (fun hc => ?_)
  | (with_reducible refine And.intro (fun hc => ?_) (fun hc => ?_))
  | walk_at "ev2")
local macro_rules | `(tactic| walk_at "nm") => `(tactic| ((with_reducible refine go_nm (env' := ?en) ?hh ?hq); (case hh => first | (dsimp only [List.set, bindE, setAll, List.foldl, List.map, List.cons_append, List.nil_append, List.replicate, wipeE]; exact rfl) | exact rfl)))
local macro_rules | `(tactic| walk_at "ev1") => `(tactic| first | walk_at "nm" | walk_at "ev1b")
local macro_rules | `(tactic| walk_at "ev") => `(tactic| repeat' walk_at "ev1")
local macro_rules | `(tactic| walk_at "evs") => `(tactic| ((try walk_at "nm"); repeat' walk_at "ev1b"))

local macro_rules | `(tactic| walk_at "ev2") => `(tactic| first
  | (with_reducible refine draw ‹_› (by omega) (by omega) (by omega) fun r st1 r0 r1 h1 hl => ?_)
  | with_reducible refine go_pick (by omega) (by first | omega | (simp only [List.length_cons, List.length_nil]; omega)) ?_ | with_reducible refine go_pickT (by omega) (by first | omega | (simp only [List.length_cons, List.length_nil]; omega)) ?_
  | with_reducible refine all_mem1 ?_ ?_ | with_reducible exact all_mem0
  | walk_at "evo")

local macro_rules | `(tactic| walk_at "ev0") => `(tactic| first
  | with_reducible refine toRefU ‹_› fun p st1 hu => ?_
  | with_reducible refine toRefDU ‹_› fun p st1 hu => ?_
  | with_reducible refine go_pickW (by omega) (by walk_at "lt") (by decide +kernel) fun w gw => ?_)

/-- the law's own book of a chief -/
abbrev LST (t : Int) (now own : Str) (told : List Str) (as : List Int) : SObj := .cell (.od false [(.k (.inr "turn"), .int t), (.k (.inr "now"), .str now), (.k (.inr "own"), .str own), (.k (.inr "told"), .tup (told.map .str)), (.k (.inr "agreed"), .lst (IL as))])
abbrev NW : List Str := ["clear", "dealt", "asking", "held", "clearing"]
theorem okS_nw {x : Str} (h : x ∈ NW) : okS x := by
  simp only [List.mem_cons, List.not_mem_nil, or_false] at h
  rcases h with rfl | rfl | rfl | rfl | rfl <;> decide +kernel
theorem repw {w : Str} (k : Nat) : (List.replicate ((k : Int) + 1).toNat [D.str w]).flatten = (List.replicate (k + 1) w).map D.str := by
  rw [show ((k : Int) + 1).toNat = k + 1 by omega]
  exact repl_str (k + 1)
theorem at0 {st : Store} {ws : List Str} {k : Nat} (h : ws.length = k + 1) : atD st (.tup (ws.map D.str)) 0 = some (.str (ws.headD "")) := by
  have e := at_told (st := st) (told := ws) (p := 0) (by decide) (by omega)
  rw [e]
  cases ws with
  | nil => exact absurd h (by simp)
  | cons x xs => rfl
section
variable {L : List (Nat × SObj)} {B u : Nat} {st : Store} {P : D → Store → Prop} {k c d n : Nat} {t p : Int} {now own ph ow : Str} {told told' : List Str} {as : List Int}
theorem go_lstate (hu : UrnL L B st u) (hk : 1 ≤ k ∧ k ≤ 100) (q : ∀ n st', UrnL ((n, LST 0 "clear" "free" (List.replicate (k + 1) "free") (rngI 1 k)) :: L) B st' u → P (.ref n) st') : (F__law_chief_state [.int (k + 1)] st).holds E P := by
  unfold F__law_chief_state
  with_reducible refine go_fn (n := 1) (by simp only [List.length_cons, List.length_nil]) ?_
  unfold B__law_chief_state
  walk_at "ev"
  rename_i p s1 hx
  rw [repw, rngD_IL, show ((k : Int) + 1 - 1).toNat = k by omega] at hx
  exact q _ _ hx
theorem go_lsilent (h : st[n]? = some (LST t now own told as)) (hl : told.length = k + 1) (hk : k ≤ 100) (ha : ∀ x ∈ as, 1 ≤ x ∧ x < 1 + (k : Int)) (q : P (.lst (IL (silI k as))) st) : (F__law_silent [.ref n] st).holds E P := by
  unfold F__law_silent
  with_reducible refine go_fn (n := 1) (by simp only [List.length_cons, List.length_nil]) ?_
  unfold B__law_silent
  have h12 : (10 : Nat) ^ 12 = 1000000000000 := by decide
  walk_at "ev"
  with_reducible refine go_vLc (fun x => !decide (toI x ∈ as)) (fun x => x) ?_
  walk_at "ev"
  rw [List.length_map, hl]
  with_reducible refine go_rng2 (by omega) ?_
  rw [rngD_IL, show ((((k + 1 : Nat) : Int)) - 1).toNat = k by omega]
  with_reducible refine ⟨?_, fun x hx => ?_, ?_⟩
  · rw [List.length_map, len_rngI]; omega
  · obtain ⟨y, hy, rfl⟩ := List.mem_map.mp hx
    have hy' := mem_rngI.mp hy
    have hin : inB (.int y) (IL as) = some (decide (y ∈ as)) := inB_ints (fun i hi => by have := ha i hi; omega) (by omega)
    with_reducible refine ⟨_, rfl, ?_, fun _ => ?_⟩
    · walk_at "ev"
      with_reducible refine go_notinL hin ?_
      walk_at "ev"
      exact ⟨rfl, rfl⟩
    · walk_at "ev"
      exact ⟨rfl, rfl⟩
  · have e1 : ((IL (rngI 1 k)).filter fun x => !decide (toI x ∈ as)).map (fun x => x) = IL (silI k as) := by
      rw [List.map_id', filter_IL]
      rfl
    rw [e1]
    walk_at "ev"
    exact q
theorem go_lbegun (hu : UrnL ((n, LST t now own told as) :: L) B st u) (q : ∀ st', UrnL ((n, LST (t + 1) ph ow told' []) :: L) B st' u → P (.tup [.str "none", .non]) st') : (F__law_begun [.ref n, .str ph, .tup (told'.map .str), .str ow] st).holds E P := by
  unfold F__law_begun
  with_reducible refine go_fn (n := 4) (by simp only [List.length_cons, List.length_nil]) ?_
  unfold B__law_begun
  have hn := hu.any (i := 0) rfl
  walk_at "ev"
  simp only [List.set_set]
  exact q _ (hu.put (i := 0) rfl)
end
end LAW

set_option maxRecDepth 100000
set_option autoImplicit false
set_option maxHeartbeats 2000000
set_option linter.all false
set_option pp.maxSteps 3000
set_option pp.deepTerms false
namespace LAW
open PySem EV L2 PyProof.Rows
variable {E : ErP} {Ee : ErS}
local macro_rules | `(tactic| walk_at "gdl") => `(tactic| first
  | with_reducible exact Gd.fitw gd_non (by decide) | with_reducible exact Gd.fitw gd_bl (by decide)
  | ((with_reducible refine Gd.fitw (gd_int ?h) ?c); (case h => omega); (case c => decide))
  | ((with_reducible refine Gd.fit (N := ?N) (n := ?n) (w := ?w) ?h ?a ?b ?c); (case h => assumption); (case a => decide); (case b => decide); (case c => decide))
  | ((with_reducible refine Gd.fitw (gd_str (w := 50) ?h ?hw) ?c); (case h => decide +kernel); (case hw => decide +kernel); (case c => decide)))
local macro_rules | `(tactic| walk_at "gd") => `(tactic| first
  | walk_at "gdl"
  | ((with_reducible refine Gd.tupP ?h ?q); (case h => decide); (case q => walk_at "gds")) | ((with_reducible refine Gd.lstP ?h ?q); (case h => decide); (case q => walk_at "gds")))
local macro_rules | `(tactic| walk_at "gds") => `(tactic| first
  | with_reducible exact Gds.nil
  | ((with_reducible refine Gds.consL ?h1 ?h3 ?h2); (case h1 => walk_at "gdl"); (case h3 => decide); (case h2 => walk_at "gds"))
  | ((with_reducible refine Gds.consH ?h1 ?h3 ?h2); (case h1 => walk_at "gd"); (case h3 => decide); (case h2 => walk_at "gds")))
local macro_rules | `(tactic| walk_at "shw") => `(tactic| ((with_reducible refine go_shw (N := 10 ^ 12) (n := 64) (w := 1000000) ?h (Nat.le_refl _) (Nat.le_refl _) (Nat.le_refl _) ?hq); (case h => walk_at "gd")))
local macro_rules | `(tactic| walk_at "same") => `(tactic| first
  | ((with_reducible refine go_neG ?h ?hq); (case h => walk_at "gd")) | ((with_reducible refine go_eqG ?h ?hq); (case h => walk_at "gd")))
local macro_rules | `(tactic| walk_at "len") => `(tactic| first
  | (simp only [List.length_cons, List.length_nil, Nat.reduceAdd, Nat.reduceLeDiff]; done)
  | (simp only [List.length_cons, List.length_nil, List.length_append, List.length_map]; omega) | omega)
local macro_rules | `(tactic| walk_at "cell") => `(tactic| first
  | assumption
  | ((with_reducible refine get_set (o := ?oo) ?hh); (case hh => walk_at "cell"))
  | exact UrnL.get ‹_› (by repeat' (first | with_reducible exact List.mem_cons_self | with_reducible refine List.mem_cons_of_mem _ ?_)))
local macro_rules | `(tactic| walk_at "lkf") => `(tactic| repeat (first | with_reducible exact lkF_nil | with_reducible exact lkF_hd | with_reducible refine lkF_tl (by decide +kernel) ?_))
local macro_rules | `(tactic| walk_at "tab") => `(tactic| repeat (first | with_reducible exact tab_hd | with_reducible refine tab_tl (by decide +kernel) ?_))
local macro_rules | `(tactic| walk_at "lkd") => `(tactic| repeat (first | with_reducible exact lkd_hd | with_reducible refine lkd_tl (by decide +kernel) ?_))
local macro_rules | `(tactic| walk_at "ndp") => `(tactic| first | with_reducible exact nd_hd | ((with_reducible refine nd_tl (r' := ?r2) ?hd ?hq); (case hd => decide +kernel); (case hq => walk_at "ndp")))
local macro_rules | `(tactic| walk_at "mem") => `(tactic| repeat (first | with_reducible exact List.mem_cons_self | with_reducible refine List.mem_cons_of_mem _ ?_))
local macro_rules | `(tactic| walk_at "evo") => `(tactic| first
  | ((with_reducible refine go_le1000 ?h ?hq); (case h => walk_at "len"))
  | ((with_reducible refine go_isiR (ds := ?ds) ?h ?hq); (case h => walk_at "cell")) | with_reducible refine go_par ?_ | with_reducible refine go_par2 ?_ | with_reducible refine go_vLock ?_ | ((with_reducible refine go_lockR (ds := ?ds) ?h ?hq); (case h => walk_at "cell"))
  | ((with_reducible refine go_addL ?h ?hq); (case h => walk_at "len")) | ((with_reducible refine go_addT ?h ?hq); (case h => walk_at "len"))
  | with_reducible refine go_enumL ?_ | with_reducible refine go_enumT ?_ | with_reducible refine go_zipL ?_ | with_reducible refine go_zipT ?_ | with_reducible refine go_revdL ?_ | with_reducible refine go_revdT ?_
  | ((with_reducible refine go_gTpK ?hl ?hq); (case hl => exact rfl)) | with_reducible refine go_inK ?_
  | with_reducible refine go_par3 ?_ | with_reducible refine go_par3e ?_ | ((with_reducible refine go_ext (ds := ?ds) ?h ?hq); (case h => exact rfl)) | ((with_reducible refine go_ext1 ?h ?hq); (case h => walk_at "len"))
  | with_reducible refine go_vMeth ?_ | ((with_reducible refine go_mlen ?h ?hq); (case h => exact rfl))
  | with_reducible refine lcp_nil ?_ | ((with_reducible refine lcp_consY (bs := ?bs) ?hb ?hq); (case hb => exact rfl)) | ((with_reducible refine lcp_cons (bs := ?bs) ?hb ?hq); (case hb => exact rfl))
  | ((with_reducible refine go_methD (C := ?C) (fs := ?fs) (ps := ?ps) (F := ?F) ?h ?hl ?ht ?hq); (case h => walk_at "cell"); (case hl => walk_at "lkf"); (case ht => walk_at "tab"))
  | ((with_reducible refine go_fld (C := ?C) (fs := ?fs) (d := ?d) ?h ?hm ?hl ?hq); (case h => walk_at "cell"); (case hm => walk_at "mem"); (case hl => walk_at "lkf"))
  | with_reducible refine go_gFld ?_ | with_reducible refine ns_hd ?_ | with_reducible refine ns_tl (by decide +kernel) ?_ | with_reducible refine ns_nil ?_
  | ((with_reducible refine go_setF (C := ?C) (fs := ?fs) ?h ?hm ?hz ?hq); (case h => walk_at "cell"); (case hm => walk_at "mem"); (case hz => walk_at "lt"))
  | ((with_reducible refine go_gTp ?hl ?hq); (case hl => exact rfl)) | with_reducible refine go_gsC ?_ | with_reducible refine go_gsN ?_ | with_reducible refine go_gN ?_
  | with_reducible refine go_fldA ?_
  | ((with_reducible refine go_augF (C := ?C) (fs := ?fs) (i := ?i) ?h ?hm ?hl ?hz ?hq); (case h => walk_at "cell"); (case hm => walk_at "mem"); (case hl => walk_at "lkf"); (case hz => walk_at "lt"))
  | with_reducible refine go_vBm ?_ | ((with_reducible refine go_isLR (ds := ?ds) ?h ?hq); (case h => walk_at "cell"))
  | ((with_reducible refine go_appD (ds := ?ds) ?h ?hz ?hq); (case h => walk_at "cell"); try (case hz => walk_at "lt"))
  | with_reducible refine go_vBd ?_ | ((with_reducible refine go_isDR (kvs := ?kvs) (k := ?k) ?h ?hq); (case h => walk_at "cell"))
  | with_reducible refine go_dnew ?_ | with_reducible refine go_toRefD ?_
  | with_reducible refine go_isN1 ?_ | with_reducible refine go_isN2 ?_ | with_reducible refine go_isN3 ?_ | with_reducible refine go_isN4 ?_ | with_reducible refine go_isN5 ?_ | with_reducible refine go_isN6 ?_
  | with_reducible refine go_isntN1 ?_ | with_reducible refine go_isntN2 ?_ | with_reducible refine go_isntN3 ?_ | with_reducible refine go_isntN4 ?_ | with_reducible refine go_isntN5 ?_ | with_reducible refine go_isntN6 ?_
  | ((with_reducible refine go_lenR (ds := ?ds) ?h ?hq); (case h => walk_at "cell"))
  | ((with_reducible refine go_lenRD (kvs := ?kvs) ?h ?hq); (case h => walk_at "cell"))
  | ((with_reducible refine go_tupR (ds := ?ds) ?h ?hq); (case h => walk_at "cell")) | ((with_reducible refine go_listR (ds := ?ds) ?h ?hq); (case h => walk_at "cell"))
  | ((with_reducible refine go_ixS (t := ?tt) (kvs := ?kvs) (d := ?d) ?h ?hl ?hq); (case h => walk_at "cell"); (case hl => walk_at "lkd"))
  | ((with_reducible refine go_setRS (kvs := ?kvs) (kvs' := ?kv2) ?h ?hz ?he ?hq); (case h => walk_at "cell"); (case hz => walk_at "lt"); (case he => walk_at "ndp"))
  | ((with_reducible refine go_disp ?hq)) | ((with_reducible refine go_ds (kvs := ?kvs) ?l ?e ?hq); (case l => exact rfl); (case e => (simp only [zipS_cons, zipS_nil]; exact rfl)))
  | ((with_reducible refine go_ixR (ds := ?ds) (d := ?d) ?h ?hi ?hq); (case h => walk_at "cell"); (case hi => exact rfl))
  | ((with_reducible refine go_setRL (ds := ?ds) (k := ?k) ?h ?hi ?hq); (case h => walk_at "cell"); (case hi => exact rfl))
  | fail)
local macro_rules | `(tactic| walk_at "lt") => `(tactic| first
  | (simp only [List.length_cons, List.length_nil, Nat.reduceAdd, Nat.reduceLTLE, Nat.reduceLeDiff]; done) | walk_at "len")
local macro_rules | `(tactic| walk_at "ev1b") => `(tactic| first
  | walk_at "ev0"
  | with_reducible refine go_seq ?_ | with_reducible refine go_c ?_ | with_reducible refine go_v2 ?_ | with_reducible refine go_vCons ?_ | with_reducible refine go_vNil ?_ | with_reducible refine go_vA ?_
  | ((with_reducible refine go_name (d := ?d) ?hh ?hq); (case hh => exact rfl))
  | with_reducible refine go_set ?_ | with_reducible refine go_if ?_ | with_reducible refine go_vB ?_ | with_reducible refine go_ret ?_ | with_reducible refine go_bl ?_ | with_reducible refine go_in ?_ | with_reducible refine go_in2 ?_
  | with_reducible refine go_add ?_ | with_reducible refine go_sub ?_ | with_reducible refine go_neg ?_
  | with_reducible refine go_lt ?_ | with_reducible refine go_le ?_ | with_reducible refine go_gt ?_ | with_reducible refine go_ge ?_ | with_reducible refine go_eqI ?_ | with_reducible refine go_neI ?_ | with_reducible refine go_eqS ?_ | with_reducible refine go_neS ?_ | with_reducible refine go_isB ?_ | with_reducible refine go_isntB ?_
  | with_reducible refine go_vNot ?_ | with_reducible refine go_vAnd ?_ | with_reducible refine go_vOr ?_ | with_reducible refine go_vAndV ?_ | with_reducible refine go_vOrV ?_ | with_reducible refine go_vNotV ?_ | with_reducible refine go_vIf ?_ | with_reducible refine go_chain ?_
  | with_reducible refine go_vFrz ?_ | with_reducible refine go_vRef ?_ | with_reducible refine go_vSl ?_ | with_reducible refine go_frz ?_ | with_reducible refine go_frz2 ?_ | with_reducible refine go_toRef ?_
  | ((with_reducible refine go_mkTup ?hn ?hq); (case hn => walk_at "len"))
  | ((with_reducible refine go_mkLst ?hn ?hq); (case hn => walk_at "len"))
  | with_reducible refine go_setS ?_ | with_reducible refine go_asg ?_ | ((with_reducible refine go_pat (bs := ?bs) ?hh ?hq); (case hh => exact rfl)) | with_reducible refine go_subR ?_
  | with_reducible refine go_nil ?_ | with_reducible refine go_retN ?_ | with_reducible refine go_expr ?_ | with_reducible refine go_v1 ?_ | with_reducible refine go_for ?_
  | ((with_reducible refine go_appN (ds := ?ds) ?hh ?hn ?hq); (case hh => exact rfl); try (case hn => (first | (simp only [List.length_cons, List.length_nil, Nat.reduceAdd, Nat.reduceLTLE, Nat.reduceLeDiff]; done) | walk_at "len"))) | ((with_reducible refine go_ixO (ds := ?ds) ?hh ?hq); (case hh => exact rfl)) | ((with_reducible refine go_lenO (ds := ?ds) ?hh ?hq); (case hh => exact rfl))
  | ((with_reducible refine go_frzO (ds := ?ds) ?hh ?hq); (case hh => exact rfl)) | ((with_reducible refine go_frzV (d := ?d) ?hh ?hq); (case hh => exact rfl))
  | with_reducible refine go_seqL ?_ | with_reducible refine go_seqT ?_ | with_reducible refine go_abs ?_ | with_reducible refine go_max2 ?_ | with_reducible refine go_min2 ?_ | with_reducible refine go_intI ?_ | with_reducible refine go_intB ?_
  | with_reducible refine go_lenL ?_ | with_reducible refine go_lenT ?_ | with_reducible refine go_lenC ?_ | with_reducible refine go_listL ?_ | with_reducible refine go_listT ?_ | with_reducible refine go_tupL ?_ | with_reducible refine go_tupT ?_
  | ((with_reducible refine go_isiT (a := ?a) ?hh ?hT ?hb ?hq); (case hh => exact rfl); (case hT => decide); (case hb => decide +kernel)) | ((with_reducible refine go_isiF (a := ?a) ?hh ?hT ?hb ?hq); (case hh => exact rfl); (case hT => decide); (case hb => decide +kernel))
  | ((with_reducible refine go_isi2T (a := ?a) ?hh ?hT ?hb ?hq); (case hh => exact rfl); (case hT => decide); (case hb => decide +kernel)) | ((with_reducible refine go_isi2F (a := ?a) ?hh ?hT ?hb ?hq); (case hh => exact rfl); (case hT => decide); (case hb => decide +kernel))
  | with_reducible refine go_revL ?_ | with_reducible refine go_revT ?_ | with_reducible refine go_noP ?_ | with_reducible refine go_soP ?_ | with_reducible refine go_slice ?_
  | ((with_reducible refine go_ix (d := ?d) ?hh ?hq); (case hh => first | assumption | exact rfl))
  | ((with_reducible refine go_mod ?hn ?hq); try (case hn => first | decide | omega)) | ((with_reducible refine go_fdiv ?hn ?hm ?hq); try (case hn => first | decide | omega); try (case hm => first | decide | assumption | exact lg1 (by omega)))
  | with_reducible refine go_mul9 ?_ | ((with_reducible refine go_mul ?hn ?hq); try (case hn => first | decide | assumption | (exact lg2 (by omega) (by omega)))) | with_reducible refine go_pow8 ?_ | with_reducible refine go_mul9 ?_ | ((with_reducible refine go_pow ?hn ?hm ?hq); try (case hn => decide); try (case hm => first | decide | assumption))
  | with_reducible refine go_fn1 ?_ | with_reducible refine go_fn2 ?_ | with_reducible refine go_fn3 ?_ | with_reducible refine go_fn4 ?_ | with_reducible refine go_fn5 ?_ | with_reducible refine go_fn6 ?_
  | ((with_reducible refine go_addSL ?hn ?hq); (case hn => first | (simp only [List.length_cons, List.length_nil, List.length_append]; omega) | omega))
  | ((with_reducible refine go_kdIx (f := ?f) ?hh ?hq); (case hh => exact rfl)) | with_reducible refine go_kdIn ?_
  | ((with_reducible refine go_callL (y := ?y) (ps := ?ps) (F := ?F) ?hh ?ht ?hq); (case hh => exact rfl); (case ht => repeat (first | with_reducible exact tab_hd | with_reducible refine tab_tl (by decide +kernel) ?_)))
  | ((with_reducible refine go_lenEq ?hh ?hq); (case hh => exact rfl))
  | ((with_reducible refine go_star (ds := ?ds) (bs := ?bs) ?hd ?hb ?hh ?hq); (case hd => exact rfl); (case hb => (simp only [List.length_cons, List.length_nil]; omega)); (case hh => exact rfl))
  | ((with_reducible refine go_lrng2 ?hn ?hq); (case hn => omega)) | ((with_reducible refine go_lrng1 ?hn ?hq); (case hn => omega))
  | ((with_reducible refine go_rep ?h1 ?h2 ?h3 ?hq); (case h1 => simp); (case h2 => omega); (case h3 => (simp only [List.length_cons, List.length_nil]; omega)))
  | with_reducible refine go_slT ?_ | with_reducible refine go_slL ?_ | with_reducible refine go_addCT (by omega) ?_ | with_reducible refine go_addCL (by omega) ?_
  | with_reducible refine go_tt ?_ | with_reducible refine go_ff ?_ | with_reducible refine go_ntt ?_ | with_reducible refine go_nff ?_
  | ((with_reducible refine go_dt ?hp ?hq); (case hp => first | (with_reducible rfl) | omega | decide | decide +kernel)) | ((with_reducible refine go_df ?hp ?hq); (case hp => first | (with_reducible rfl) | omega | decide | decide +kernel)) | with_reducible refine go_d (fun hc => ?_) (fun hc => ?_)
  | ((with_reducible refine go_ndt ?hp ?hq); (case hp => first | (with_reducible rfl) | omega | decide | decide +kernel)) | ((with_reducible refine go_ndf ?hp ?hq); (case hp => first | (with_reducible rfl) | omega | decide | decide +kernel)) | with_reducible refine go_nd (fun hc => ?_) (fun hc => ?_)
  | (with_reducible refine And.intro (fun hc => ?_) (fun hc => ?_))
  | walk_at "ev2")
local macro_rules | `(tactic| walk_at "nm") => `(tactic| ((with_reducible refine go_nm (env' := ?en) ?hh ?hq); (case hh => first | (dsimp only [List.set, bindE, setAll, List.foldl, List.map, List.cons_append, List.nil_append, List.replicate, wipeE]; exact rfl) | exact rfl)))
local macro_rules | `(tactic| walk_at "ev1") => `(tactic| first | walk_at "nm" | walk_at "ev1b")
local macro_rules | `(tactic| walk_at "ev") => `(tactic| repeat' walk_at "ev1")
local macro_rules | `(tactic| walk_at "evs") => `(tactic| ((try walk_at "nm"); repeat' walk_at "ev1b"))

local macro_rules | `(tactic| walk_at "ev2") => `(tactic| first
  | (with_reducible refine draw ‹_› (by omega) (by omega) (by omega) fun r st1 r0 r1 h1 hl => ?_)
  | with_reducible refine go_pick (by omega) (by first | omega | (simp only [List.length_cons, List.length_nil]; omega)) ?_ | with_reducible refine go_pickT (by omega) (by first | omega | (simp only [List.length_cons, List.length_nil]; omega)) ?_
  | with_reducible refine all_mem1 ?_ ?_ | with_reducible exact all_mem0
  | walk_at "evo")

local macro_rules | `(tactic| walk_at "ev0") => `(tactic| first
  | with_reducible refine toRefU ‹_› fun p st1 hu => ?_
  | with_reducible refine toRefDU ‹_› fun p st1 hu => ?_
  | with_reducible refine go_pickW (by omega) (by walk_at "lt") (by decide +kernel) fun w gw => ?_)

theorem okS_w3 {x : Str} (h : x ∈ W3) : okS x := by
  simp only [List.mem_cons, List.not_mem_nil, or_false] at h
  rcases h with rfl | rfl | rfl <;> decide +kernel
section
variable {L : List (Nat × SObj)} {B u : Nat} {st : Store} {P : D → Store → Prop} {k c d n : Nat} {t p : Int} {now own ph ow : Str} {told told' : List Str} {as : List Int}
theorem go_lare {N n nw : Nat} {w : D} {many : Int} (g : Gd N n nw w) (hw : nw ≤ 1000) (q : P (.bl (areW many w)) st) : (F__law_are_words [w, .int many] st).holds E P := by
  unfold F__law_are_words
  with_reducible refine go_fn (n := 2) (by simp only [List.length_cons, List.length_nil]) ?_
  unfold B__law_are_words
  have gp := g.1
  cases w <;> first | (exfalso; unfold pl at gp; exact Bool.noConfusion gp) | (walk_at "ev"; exact q) | skip
  rename_i xs
  have e1 : areW many (.tup xs) = (decide ((xs.length : Int) = many) && xs.all isWd) := rfl
  rw [e1] at q
  have gs : Gds N n nw xs := by
    refine ⟨?_, ?_, ?_⟩
    · have h := g.1
      unfold pl at h
      exact h
    · have h := g.2.1
      unfold dep at h
      omega
    · have h := g.2.2
      unfold wt at h
      exact h
  have hlen := gs.len
  walk_at "ev"
  · rename_i hc
    have hc' : ¬ (xs.length : Int) = many := hc
    rw [decide_eq_false hc', Bool.false_and] at q
    exact q
  · rename_i hc
    have hc' : (xs.length : Int) = many := hc
    rw [decide_eq_true hc', Bool.true_and] at q
    with_reducible refine go_vLc (fun _ => true) (fun x => .bl (isWd x)) ?_
    walk_at "ev"
    with_reducible refine ⟨fun x hx => ?_, ?_⟩
    · have gx := (Gds.mem gs hx).1
      refine ⟨_, rfl, ⟨rfl, rfl⟩, fun _ => ?_⟩
      cases x <;> first | (exfalso; unfold pl at gx; exact Bool.noConfusion gx) | (walk_at "ev"; exact ⟨rfl, rfl⟩) | skip
      walk_at "ev"
      rename_i w
      have gw : okS w := by
        unfold pl at gx
        exact gx
      with_reducible refine go_inLS (ws := W3) rfl (fun x hx => okS_w3 hx) gw ?_
      exact ⟨rfl, rfl⟩
    · have e3 : (xs.filter fun _ => true).map (fun x => D.bl (isWd x)) = xs.map fun x => D.bl (isWd x) := by rw [List.filter_eq_self.mpr fun _ _ => rfl]
      rw [e3]
      walk_at "ev"
      with_reducible refine all_M ?_
      exact q
theorem go_lletters (h : st[n]? = some (LST t now own told as)) (hk : k ≤ 100) (hl : told.length = k + 1) (ha : ∀ x ∈ as, 1 ≤ x ∧ x < 1 + (k : Int)) (q : P (.tup ((silI k as).map (letD t told))) st) : (F__law_letters_due [.ref n] st).holds E P := by
  unfold F__law_letters_due
  with_reducible refine go_fn (n := 1) (by simp only [List.length_cons, List.length_nil]) ?_
  unfold B__law_letters_due
  walk_at "ev"
  with_reducible refine go_vLc (fun _ => true) (fun x => letD t told (toI x)) ?_
  walk_at "ev"
  with_reducible refine go_lsilent h hl hk ha ?_
  have hl2 := sil_len (k := k) (as := as)
  walk_at "ev"
  with_reducible refine ⟨fun x hx => ?_, ?_⟩
  · obtain ⟨y, hy, rfl⟩ := List.mem_map.mp hx
    have hy' := mem_rngI.mp (List.mem_filter.mp hy).1
    have hat := at_told (st := st) (told := told) (p := y) (by omega) (by omega)
    refine ⟨_, rfl, ⟨rfl, rfl⟩, fun _ => ?_⟩
    walk_at "ev"
    exact ⟨rfl, rfl⟩
  · have e1 : ((IL (silI k as)).filter fun _ => true).map (fun x => letD t told (toI x)) = (silI k as).map (letD t told) := by
      rw [List.filter_eq_self.mpr fun _ _ => rfl, List.map_map]
      rfl
    rw [e1]
    walk_at "ev"
    exact q
/-- what is due of a deed -/
theorem okS_mem {ws : List Str} (h : ∀ x ∈ ws, x ∈ NW) : ∀ x ∈ ws, okS x := fun x hx => okS_nw (h x hx)
theorem go_phases {ws : List Str} {ys : List D} {st : Store} {P : D → Store → Prop} {now : Str} (e : ys = ws.map D.str) (h : ∀ x ∈ ws, x ∈ NW) (hn : now ∈ NW) (q : P (.bl (!ws.any fun w => w == now)) st) : (notinD (.str now) (.lst ys) st).holds E P := go_notinLS e (okS_mem h) (okS_nw hn) q
theorem go_due_deal {w : D} {N n1 nw : Nat} (hu : UrnL ((n, LST t now own told as) :: L) B st u) (hk : 1 ≤ k ∧ k ≤ 100) (hl : told.length = k + 1) (ha : ∀ x ∈ as, 1 ≤ x ∧ x < 1 + (k : Int)) (hn : now ∈ NW) (g : Gd N n1 nw w) (hw : nw ≤ 1000)
    (q : ∀ ws, w = .tup (ws.map .str) → ws.length = k + 1 → (∀ x ∈ ws, x ∈ W3) → (now = "clear" ∨ now = "held") → silI k as = [] → ∀ st', UrnL ((n, LST (t + 1) "dealt" (ws.headD "") ws []) :: L) B st' u → P (.tup [.str "none", .non]) st')
    (qw : areW (k + 1) w = false → P (.tup [.str "NoWords", w]) st)
    (qe : areW (k + 1) w = true → ¬ ((now = "clear" ∨ now = "held") ∧ silI k as = []) → ∀ st', UrnL ((n, LST t now own told as) :: L) B st' u → P (.tup [.str "NotAgreed", .tup [.str now, .tup (IL (silI k as))]]) st') :
    (F__law_chief_due [.ref n, .tup [.str "deal", w]] st).holds E P := by
  unfold F__law_chief_due
  with_reducible refine go_fn (n := 2) (by simp only [List.length_cons, List.length_nil]) ?_
  unfold B__law_chief_due
  have hs := hu.any (i := 0) rfl
  walk_at "ev"
  with_reducible refine go_lsilent hs hl hk.2 ha ?_
  walk_at "ev"
  with_reducible refine go_lare g hw ?_
  rw [List.length_map, hl, show (((k + 1 : Nat) : Int)) = (k : Int) + 1 by omega]
  cases hA : areW (k + 1) w with
  | false =>
    walk_at "ev"
    exact qw hA
  | true =>
    walk_at "ev"
    rename_i p1 s1 hu1
    have hu2 := hu1.sub (List.sublist_cons_self _ _)
    have hs1 := hu2.any (i := 0) rfl
    clear hu hu1 hs
    with_reducible refine go_phases (ws := ["clear", "held"]) rfl (fun x hx => by simp only [List.mem_cons, List.not_mem_nil, or_false] at hx ⊢; rcases hx with rfl | rfl <;> simp) hn ?_
    cases hph : ((["clear", "held"] : List Str).any fun w => w == now) with
    | false =>
      walk_at "ev"
      exact qe hA (fun z => by rw [any2.mpr z.1] at hph; exact Bool.noConfusion hph) _ hu2
    | true =>
      walk_at "ev"
      with_reducible refine go_neE (gd_sil hk.2) ?_
      cases hse : silI k as with
      | cons x xs =>
        have e0 : (!(IL (x :: xs)).isEmpty) = true := rfl
        rw [e0]
        walk_at "ev"
        rw [hse] at qe
        exact qe hA (fun z => nomatch z.2) _ hu2
      | nil =>
        have e0 : (!(IL ([] : List Int)).isEmpty) = false := rfl
        rw [e0]
        walk_at "ev"
        cases w <;> first | exact Bool.noConfusion hA | skip
        rename_i xs
        rw [areW_tup, Bool.and_eq_true] at hA
        obtain ⟨ws, rfl, hws⟩ := wds_of hA.2
        have hlen : ws.length = k + 1 := by
          have := of_decide_eq_true hA.1
          rw [List.length_map] at this
          omega
        have hat := at0 (st := s1) hlen
        walk_at "ev"
        exact go_lbegun hu2 fun st' h => q ws rfl hlen hws (any2.mp hph) hse st' h
theorem go_due_ask (hu : UrnL ((n, LST t now own told as) :: L) B st u) (hk : 1 ≤ k ∧ k ≤ 100) (hl : told.length = k + 1) (ha : ∀ x ∈ as, 1 ≤ x ∧ x < 1 + (k : Int)) (hn : now ∈ NW)
    (q : (now = "dealt") → silI k as = [] → ∀ st', UrnL ((n, LST (t + 1) "asking" own (List.replicate (k + 1) "hold") []) :: L) B st' u → P (.tup [.str "none", .non]) st')
    (qe : ¬ ((now = "dealt") ∧ silI k as = []) → ∀ st', UrnL ((n, LST t now own told as) :: L) B st' u → P (.tup [.str "NotAgreed", .tup [.str now, .tup (IL (silI k as))]]) st') :
    (F__law_chief_due [.ref n, .tup [.str "ask"]] st).holds E P := by
  unfold F__law_chief_due
  with_reducible refine go_fn (n := 2) (by simp only [List.length_cons, List.length_nil]) ?_
  unfold B__law_chief_due
  have hs := hu.any (i := 0) rfl
  walk_at "ev"
  with_reducible refine go_lsilent hs hl hk.2 ha ?_
  walk_at "ev"
  rename_i p1 s1 hu1
  have hu2 := hu1.sub (List.sublist_cons_self _ _)
  have hs1 := hu2.any (i := 0) rfl
  clear hu hu1 hs
  with_reducible refine go_phases (ws := ["dealt"]) rfl (fun x hx => by simp only [List.mem_cons, List.not_mem_nil, or_false] at hx ⊢; subst hx; simp) hn ?_
  cases hph : ((["dealt"] : List Str).any fun w => w == now) with
  | false =>
    walk_at "ev"
    exact qe (fun z => by rw [any1.mpr z.1] at hph; exact Bool.noConfusion hph) _ hu2
  | true =>
    walk_at "ev"
    with_reducible refine go_neE (gd_sil hk.2) ?_
    cases hse : silI k as with
    | cons x xs =>
      have e0 : (!(IL (x :: xs)).isEmpty) = true := rfl
      rw [e0]
      walk_at "ev"
      rw [hse] at qe
      exact qe (fun z => nomatch z.2) _ hu2
    | nil =>
      have e0 : (!(IL ([] : List Int)).isEmpty) = false := rfl
      rw [e0]
      walk_at "ev"
      rw [List.length_map, hl]
      walk_at "ev"
      have et : (List.replicate ((k + 1 : Nat) : Int).toNat [D.str "hold"]).flatten = (List.replicate (k + 1) (Str.ofString "hold")).map D.str := repw k
      rw [et]
      walk_at "ev"
      exact go_lbegun hu2 fun st' h => q (any1.mp hph) hse st' h
theorem go_due_clear (hu : UrnL ((n, LST t now own told as) :: L) B st u) (hk : 1 ≤ k ∧ k ≤ 100) (hl : told.length = k + 1) (ha : ∀ x ∈ as, 1 ≤ x ∧ x < 1 + (k : Int)) (hn : now ∈ NW)
    (q : (now = "dealt" ∨ now = "held") → silI k as = [] → ∀ st', UrnL ((n, LST (t + 1) "clearing" "free" (List.replicate (k + 1) "free") []) :: L) B st' u → P (.tup [.str "none", .non]) st')
    (qe : ¬ ((now = "dealt" ∨ now = "held") ∧ silI k as = []) → ∀ st', UrnL ((n, LST t now own told as) :: L) B st' u → P (.tup [.str "NotAgreed", .tup [.str now, .tup (IL (silI k as))]]) st') :
    (F__law_chief_due [.ref n, .tup [.str "clear"]] st).holds E P := by
  unfold F__law_chief_due
  with_reducible refine go_fn (n := 2) (by simp only [List.length_cons, List.length_nil]) ?_
  unfold B__law_chief_due
  have hs := hu.any (i := 0) rfl
  walk_at "ev"
  with_reducible refine go_lsilent hs hl hk.2 ha ?_
  walk_at "ev"
  rename_i p1 s1 hu1
  have hu2 := hu1.sub (List.sublist_cons_self _ _)
  have hs1 := hu2.any (i := 0) rfl
  clear hu hu1 hs
  with_reducible refine go_phases (ws := ["dealt", "held"]) rfl (fun x hx => by simp only [List.mem_cons, List.not_mem_nil, or_false] at hx ⊢; rcases hx with rfl | rfl <;> simp) hn ?_
  cases hph : ((["dealt", "held"] : List Str).any fun w => w == now) with
  | false =>
    walk_at "ev"
    exact qe (fun z => by rw [any2.mpr z.1] at hph; exact Bool.noConfusion hph) _ hu2
  | true =>
    walk_at "ev"
    with_reducible refine go_neE (gd_sil hk.2) ?_
    cases hse : silI k as with
    | cons x xs =>
      have e0 : (!(IL (x :: xs)).isEmpty) = true := rfl
      rw [e0]
      walk_at "ev"
      rw [hse] at qe
      exact qe (fun z => nomatch z.2) _ hu2
    | nil =>
      have e0 : (!(IL ([] : List Int)).isEmpty) = false := rfl
      rw [e0]
      walk_at "ev"
      rw [List.length_map, hl]
      walk_at "ev"
      have et : (List.replicate ((k + 1 : Nat) : Int).toNat [D.str "free"]).flatten = (List.replicate (k + 1) (Str.ofString "free")).map D.str := repw k
      rw [et]
      exact go_lbegun hu2 fun st' h => q (any2.mp hph) hse st' h
/-- the deed done -/
theorem go_does_deal {w : D} {N n1 nw : Nat} (hu : UrnL ((c, CHF k t now own told d) :: (d, AGC as) :: L) B st u) (hk : 1 ≤ k ∧ k ≤ 100) (hl : told.length = k + 1) (g : Gd N n1 nw w) (hw : nw ≤ 1000)
    (q : ∀ ws, w = .tup (ws.map .str) → ws.length = k + 1 → (∀ x ∈ ws, x ∈ W3) → (now = "clear" ∨ now = "held") → silI k as = [] → ∀ d' st', UrnL ((c, CHF k (t + 1) "dealt" (ws.headD "") ws d') :: (d', AGC []) :: L) B st' u → P (.tup [.str "none", .non]) st')
    (qw : areW (k + 1) w = false → P (.tup [.str "NoWords", w]) st)
    (qe : areW (k + 1) w = true → ¬ ((now = "clear" ∨ now = "held") ∧ silI k as = []) → P (.tup [.str "NotAgreed", .tup [.str now, .tup (IL (silI k as))]]) st) :
    (F__law_chief_does [.ref c, .tup [.str "deal", w]] st).holds E P := by
  unfold F__law_chief_does
  with_reducible refine go_fn (n := 2) (by simp only [List.length_cons, List.length_nil]) ?_
  unfold B__law_chief_does
  have hc := hu.any (i := 0) rfl
  walk_at "ev"
  with_reducible refine go_try ?_
  walk_at "ev"
  with_reducible refine go_chief_deal hu hk hl g hw (fun ws e l' w' hn' hs' d' st' h => ?q) (fun h => ?w) (fun hA h => ?e)
  case q =>
    walk_at "ev"
    exact q ws e l' w' hn' hs' d' _ (h.sub (((List.sublist_cons_self _ _).cons_cons _).cons_cons _))
  case w =>
    refine ⟨by simp, ?_⟩
    with_reducible refine go_hdAs (by simp) ?_
    walk_at "ev"
    with_reducible refine go_xf (d := w) (by walk_at "lkf") ?_
    walk_at "ev"
    exact qw h
  case e =>
    refine ⟨by simp, ?_⟩
    with_reducible refine go_hdNo (by simp; decide) ?_
    with_reducible refine go_hdAs (by simp) ?_
    walk_at "ev"
    with_reducible refine go_xf (d := .str now) (by walk_at "lkf") ?_
    walk_at "ev"
    with_reducible refine go_xf (d := .tup (IL (silI k as))) (by walk_at "lkf") ?_
    walk_at "ev"
    exact qe hA h
theorem go_does_ask (hu : UrnL ((c, CHF k t now own told d) :: (d, AGC as) :: L) B st u) (hk : 1 ≤ k ∧ k ≤ 100) (hl : told.length = k + 1)
    (q : (now = "dealt") → silI k as = [] → ∀ d' st', UrnL ((c, CHF k (t + 1) "asking" own (List.replicate (k + 1) "hold") d') :: (d', AGC []) :: L) B st' u → P (.tup [.str "none", .non]) st')
    (qe : ¬ ((now = "dealt") ∧ silI k as = []) → P (.tup [.str "NotAgreed", .tup [.str now, .tup (IL (silI k as))]]) st) :
    (F__law_chief_does [.ref c, .tup [.str "ask"]] st).holds E P := by
  unfold F__law_chief_does
  with_reducible refine go_fn (n := 2) (by simp only [List.length_cons, List.length_nil]) ?_
  unfold B__law_chief_does
  have hc := hu.any (i := 0) rfl
  walk_at "ev"
  with_reducible refine go_try ?_
  walk_at "ev"
  with_reducible refine go_chief_ask hu hk hl (fun hn' hs' d' st' h => ?q) (fun h => ?e)
  case q =>
    walk_at "ev"
    exact q hn' hs' d' _ (h.sub (((List.sublist_cons_self _ _).cons_cons _).cons_cons _))
  case e =>
    refine ⟨by simp, ?_⟩
    with_reducible refine go_hdNo (by simp; decide) ?_
    with_reducible refine go_hdAs (by simp) ?_
    walk_at "ev"
    with_reducible refine go_xf (d := .str now) (by walk_at "lkf") ?_
    walk_at "ev"
    with_reducible refine go_xf (d := .tup (IL (silI k as))) (by walk_at "lkf") ?_
    walk_at "ev"
    exact qe h
theorem go_does_clear (hu : UrnL ((c, CHF k t now own told d) :: (d, AGC as) :: L) B st u) (hk : 1 ≤ k ∧ k ≤ 100) (hl : told.length = k + 1)
    (q : (now = "dealt" ∨ now = "held") → silI k as = [] → ∀ d' st', UrnL ((c, CHF k (t + 1) "clearing" "free" (List.replicate (k + 1) "free") d') :: (d', AGC []) :: L) B st' u → P (.tup [.str "none", .non]) st')
    (qe : ¬ ((now = "dealt" ∨ now = "held") ∧ silI k as = []) → P (.tup [.str "NotAgreed", .tup [.str now, .tup (IL (silI k as))]]) st) :
    (F__law_chief_does [.ref c, .tup [.str "clear"]] st).holds E P := by
  unfold F__law_chief_does
  with_reducible refine go_fn (n := 2) (by simp only [List.length_cons, List.length_nil]) ?_
  unfold B__law_chief_does
  have hc := hu.any (i := 0) rfl
  walk_at "ev"
  with_reducible refine go_try ?_
  walk_at "ev"
  with_reducible refine go_chief_clear hu hk hl (fun hn' hs' d' st' h => ?q) (fun h => ?e)
  case q =>
    walk_at "ev"
    exact q hn' hs' d' _ (h.sub (((List.sublist_cons_self _ _).cons_cons _).cons_cons _))
  case e =>
    refine ⟨by simp, ?_⟩
    with_reducible refine go_hdNo (by simp; decide) ?_
    with_reducible refine go_hdAs (by simp) ?_
    walk_at "ev"
    with_reducible refine go_xf (d := .str now) (by walk_at "lkf") ?_
    walk_at "ev"
    with_reducible refine go_xf (d := .tup (IL (silI k as))) (by walk_at "lkf") ?_
    walk_at "ev"
    exact qe h
end
end LAW

set_option maxRecDepth 100000
set_option autoImplicit false
set_option maxHeartbeats 2000000
set_option linter.all false
set_option pp.maxSteps 3000
set_option pp.deepTerms false
namespace LAW
open PySem EV L2 PyProof.Rows
variable {E : ErP} {Ee : ErS}
local macro_rules | `(tactic| walk_at "gdl") => `(tactic| first
  | with_reducible exact Gd.fitw gd_non (by decide) | with_reducible exact Gd.fitw gd_bl (by decide)
  | ((with_reducible refine Gd.fitw (gd_int ?h) ?c); (case h => omega); (case c => decide))
  | ((with_reducible refine Gd.fit (N := ?N) (n := ?n) (w := ?w) ?h ?a ?b ?c); (case h => assumption); (case a => decide); (case b => decide); (case c => decide))
  | ((with_reducible refine Gd.fitw (gd_str (w := 50) ?h ?hw) ?c); (case h => decide +kernel); (case hw => decide +kernel); (case c => decide)))
local macro_rules | `(tactic| walk_at "gd") => `(tactic| first
  | walk_at "gdl"
  | ((with_reducible refine Gd.tupP ?h ?q); (case h => decide); (case q => walk_at "gds")) | ((with_reducible refine Gd.lstP ?h ?q); (case h => decide); (case q => walk_at "gds")))
local macro_rules | `(tactic| walk_at "gds") => `(tactic| first
  | with_reducible exact Gds.nil
  | ((with_reducible refine Gds.consL ?h1 ?h3 ?h2); (case h1 => walk_at "gdl"); (case h3 => decide); (case h2 => walk_at "gds"))
  | ((with_reducible refine Gds.consH ?h1 ?h3 ?h2); (case h1 => walk_at "gd"); (case h3 => decide); (case h2 => walk_at "gds")))
local macro_rules | `(tactic| walk_at "shw") => `(tactic| ((with_reducible refine go_shw (N := 10 ^ 12) (n := 64) (w := 1000000) ?h (Nat.le_refl _) (Nat.le_refl _) (Nat.le_refl _) ?hq); (case h => walk_at "gd")))
local macro_rules | `(tactic| walk_at "same") => `(tactic| first
  | ((with_reducible refine go_neG ?h ?hq); (case h => walk_at "gd")) | ((with_reducible refine go_eqG ?h ?hq); (case h => walk_at "gd")))
local macro_rules | `(tactic| walk_at "len") => `(tactic| first
  | (simp only [List.length_cons, List.length_nil, Nat.reduceAdd, Nat.reduceLeDiff]; done)
  | (simp only [List.length_cons, List.length_nil, List.length_append, List.length_map]; omega) | omega)
local macro_rules | `(tactic| walk_at "cell") => `(tactic| first
  | assumption
  | ((with_reducible refine get_set (o := ?oo) ?hh); (case hh => walk_at "cell"))
  | exact UrnL.get ‹_› (by repeat' (first | with_reducible exact List.mem_cons_self | with_reducible refine List.mem_cons_of_mem _ ?_)))
local macro_rules | `(tactic| walk_at "lkf") => `(tactic| repeat (first | with_reducible exact lkF_nil | with_reducible exact lkF_hd | with_reducible refine lkF_tl (by decide +kernel) ?_))
local macro_rules | `(tactic| walk_at "tab") => `(tactic| repeat (first | with_reducible exact tab_hd | with_reducible refine tab_tl (by decide +kernel) ?_))
local macro_rules | `(tactic| walk_at "lkd") => `(tactic| repeat (first | with_reducible exact lkd_hd | with_reducible refine lkd_tl (by decide +kernel) ?_))
local macro_rules | `(tactic| walk_at "ndp") => `(tactic| first | with_reducible exact nd_hd | ((with_reducible refine nd_tl (r' := ?r2) ?hd ?hq); (case hd => decide +kernel); (case hq => walk_at "ndp")))
local macro_rules | `(tactic| walk_at "mem") => `(tactic| repeat (first | with_reducible exact List.mem_cons_self | with_reducible refine List.mem_cons_of_mem _ ?_))
local macro_rules | `(tactic| walk_at "evo") => `(tactic| first
  | ((with_reducible refine go_le1000 ?h ?hq); (case h => walk_at "len"))
  | ((with_reducible refine go_isiR (ds := ?ds) ?h ?hq); (case h => walk_at "cell")) | with_reducible refine go_par ?_ | with_reducible refine go_par2 ?_ | with_reducible refine go_vLock ?_ | ((with_reducible refine go_lockR (ds := ?ds) ?h ?hq); (case h => walk_at "cell"))
  | ((with_reducible refine go_addL ?h ?hq); (case h => walk_at "len")) | ((with_reducible refine go_addT ?h ?hq); (case h => walk_at "len"))
  | with_reducible refine go_enumL ?_ | with_reducible refine go_enumT ?_ | with_reducible refine go_zipL ?_ | with_reducible refine go_zipT ?_ | with_reducible refine go_revdL ?_ | with_reducible refine go_revdT ?_
  | ((with_reducible refine go_gTpK ?hl ?hq); (case hl => exact rfl)) | with_reducible refine go_inK ?_
  | with_reducible refine go_par3 ?_ | with_reducible refine go_par3e ?_ | ((with_reducible refine go_ext (ds := ?ds) ?h ?hq); (case h => exact rfl)) | ((with_reducible refine go_ext1 ?h ?hq); (case h => walk_at "len"))
  | with_reducible refine go_vMeth ?_ | ((with_reducible refine go_mlen ?h ?hq); (case h => exact rfl))
  | with_reducible refine lcp_nil ?_ | ((with_reducible refine lcp_consY (bs := ?bs) ?hb ?hq); (case hb => exact rfl)) | ((with_reducible refine lcp_cons (bs := ?bs) ?hb ?hq); (case hb => exact rfl))
  | ((with_reducible refine go_methD (C := ?C) (fs := ?fs) (ps := ?ps) (F := ?F) ?h ?hl ?ht ?hq); (case h => walk_at "cell"); (case hl => walk_at "lkf"); (case ht => walk_at "tab"))
  | ((with_reducible refine go_fld (C := ?C) (fs := ?fs) (d := ?d) ?h ?hm ?hl ?hq); (case h => walk_at "cell"); (case hm => walk_at "mem"); (case hl => walk_at "lkf"))
  | with_reducible refine go_gFld ?_ | with_reducible refine ns_hd ?_ | with_reducible refine ns_tl (by decide +kernel) ?_ | with_reducible refine ns_nil ?_
  | ((with_reducible refine go_setF (C := ?C) (fs := ?fs) ?h ?hm ?hz ?hq); (case h => walk_at "cell"); (case hm => walk_at "mem"); (case hz => walk_at "lt"))
  | ((with_reducible refine go_gTp ?hl ?hq); (case hl => exact rfl)) | with_reducible refine go_gsC ?_ | with_reducible refine go_gsN ?_ | with_reducible refine go_gN ?_
  | with_reducible refine go_fldA ?_
  | ((with_reducible refine go_augF (C := ?C) (fs := ?fs) (i := ?i) ?h ?hm ?hl ?hz ?hq); (case h => walk_at "cell"); (case hm => walk_at "mem"); (case hl => walk_at "lkf"); (case hz => walk_at "lt"))
  | with_reducible refine go_vBm ?_ | ((with_reducible refine go_isLR (ds := ?ds) ?h ?hq); (case h => walk_at "cell"))
  | ((with_reducible refine go_appD (ds := ?ds) ?h ?hz ?hq); (case h => walk_at "cell"); try (case hz => walk_at "lt"))
  | with_reducible refine go_vBd ?_ | ((with_reducible refine go_isDR (kvs := ?kvs) (k := ?k) ?h ?hq); (case h => walk_at "cell"))
  | with_reducible refine go_dnew ?_ | with_reducible refine go_toRefD ?_
  | with_reducible refine go_isN1 ?_ | with_reducible refine go_isN2 ?_ | with_reducible refine go_isN3 ?_ | with_reducible refine go_isN4 ?_ | with_reducible refine go_isN5 ?_ | with_reducible refine go_isN6 ?_
  | with_reducible refine go_isntN1 ?_ | with_reducible refine go_isntN2 ?_ | with_reducible refine go_isntN3 ?_ | with_reducible refine go_isntN4 ?_ | with_reducible refine go_isntN5 ?_ | with_reducible refine go_isntN6 ?_
  | ((with_reducible refine go_lenR (ds := ?ds) ?h ?hq); (case h => walk_at "cell"))
  | ((with_reducible refine go_lenRD (kvs := ?kvs) ?h ?hq); (case h => walk_at "cell"))
  | ((with_reducible refine go_tupR (ds := ?ds) ?h ?hq); (case h => walk_at "cell")) | ((with_reducible refine go_listR (ds := ?ds) ?h ?hq); (case h => walk_at "cell"))
  | ((with_reducible refine go_ixS (t := ?tt) (kvs := ?kvs) (d := ?d) ?h ?hl ?hq); (case h => walk_at "cell"); (case hl => walk_at "lkd"))
  | ((with_reducible refine go_setRS (kvs := ?kvs) (kvs' := ?kv2) ?h ?hz ?he ?hq); (case h => walk_at "cell"); (case hz => walk_at "lt"); (case he => walk_at "ndp"))
  | ((with_reducible refine go_disp ?hq)) | ((with_reducible refine go_ds (kvs := ?kvs) ?l ?e ?hq); (case l => exact rfl); (case e => (simp only [zipS_cons, zipS_nil]; exact rfl)))
  | ((with_reducible refine go_ixR (ds := ?ds) (d := ?d) ?h ?hi ?hq); (case h => walk_at "cell"); (case hi => exact rfl))
  | ((with_reducible refine go_setRL (ds := ?ds) (k := ?k) ?h ?hi ?hq); (case h => walk_at "cell"); (case hi => exact rfl))
  | fail)
local macro_rules | `(tactic| walk_at "lt") => `(tactic| first
  | (simp only [List.length_cons, List.length_nil, Nat.reduceAdd, Nat.reduceLTLE, Nat.reduceLeDiff]; done) | walk_at "len")
local macro_rules | `(tactic| walk_at "ev1b") => `(tactic| first
  | walk_at "ev0"
  | with_reducible refine go_seq ?_ | with_reducible refine go_c ?_ | with_reducible refine go_v2 ?_ | with_reducible refine go_vCons ?_ | with_reducible refine go_vNil ?_ | with_reducible refine go_vA ?_
  | ((with_reducible refine go_name (d := ?d) ?hh ?hq); (case hh => exact rfl))
  | with_reducible refine go_set ?_ | with_reducible refine go_if ?_ | with_reducible refine go_vB ?_ | with_reducible refine go_ret ?_ | with_reducible refine go_bl ?_ | with_reducible refine go_in ?_ | with_reducible refine go_in2 ?_
  | with_reducible refine go_add ?_ | with_reducible refine go_sub ?_ | with_reducible refine go_neg ?_
  | with_reducible refine go_lt ?_ | with_reducible refine go_le ?_ | with_reducible refine go_gt ?_ | with_reducible refine go_ge ?_ | with_reducible refine go_eqI ?_ | with_reducible refine go_neI ?_ | with_reducible refine go_eqS ?_ | with_reducible refine go_neS ?_ | with_reducible refine go_isB ?_ | with_reducible refine go_isntB ?_
  | with_reducible refine go_vNot ?_ | with_reducible refine go_vAnd ?_ | with_reducible refine go_vOr ?_ | with_reducible refine go_vAndV ?_ | with_reducible refine go_vOrV ?_ | with_reducible refine go_vNotV ?_ | with_reducible refine go_vIf ?_ | with_reducible refine go_chain ?_
  | with_reducible refine go_vFrz ?_ | with_reducible refine go_vRef ?_ | with_reducible refine go_vSl ?_ | with_reducible refine go_frz ?_ | with_reducible refine go_frz2 ?_ | with_reducible refine go_toRef ?_
  | ((with_reducible refine go_mkTup ?hn ?hq); (case hn => walk_at "len"))
  | ((with_reducible refine go_mkLst ?hn ?hq); (case hn => walk_at "len"))
  | with_reducible refine go_setS ?_ | with_reducible refine go_asg ?_ | ((with_reducible refine go_pat (bs := ?bs) ?hh ?hq); (case hh => exact rfl)) | with_reducible refine go_subR ?_
  | with_reducible refine go_nil ?_ | with_reducible refine go_retN ?_ | with_reducible refine go_expr ?_ | with_reducible refine go_v1 ?_ | with_reducible refine go_for ?_
  | ((with_reducible refine go_appN (ds := ?ds) ?hh ?hn ?hq); (case hh => exact rfl); try (case hn => (first | (simp only [List.length_cons, List.length_nil, Nat.reduceAdd, Nat.reduceLTLE, Nat.reduceLeDiff]; done) | walk_at "len"))) | ((with_reducible refine go_ixO (ds := ?ds) ?hh ?hq); (case hh => exact rfl)) | ((with_reducible refine go_lenO (ds := ?ds) ?hh ?hq); (case hh => exact rfl))
  | ((with_reducible refine go_frzO (ds := ?ds) ?hh ?hq); (case hh => exact rfl)) | ((with_reducible refine go_frzV (d := ?d) ?hh ?hq); (case hh => exact rfl))
  | with_reducible refine go_seqL ?_ | with_reducible refine go_seqT ?_ | with_reducible refine go_abs ?_ | with_reducible refine go_max2 ?_ | with_reducible refine go_min2 ?_ | with_reducible refine go_intI ?_ | with_reducible refine go_intB ?_
  | with_reducible refine go_lenL ?_ | with_reducible refine go_lenT ?_ | with_reducible refine go_lenC ?_ | with_reducible refine go_listL ?_ | with_reducible refine go_listT ?_ | with_reducible refine go_tupL ?_ | with_reducible refine go_tupT ?_
  | ((with_reducible refine go_isiT (a := ?a) ?hh ?hT ?hb ?hq); (case hh => exact rfl); (case hT => decide); (case hb => decide +kernel)) | ((with_reducible refine go_isiF (a := ?a) ?hh ?hT ?hb ?hq); (case hh => exact rfl); (case hT => decide); (case hb => decide +kernel))
  | ((with_reducible refine go_isi2T (a := ?a) ?hh ?hT ?hb ?hq); (case hh => exact rfl); (case hT => decide); (case hb => decide +kernel)) | ((with_reducible refine go_isi2F (a := ?a) ?hh ?hT ?hb ?hq); (case hh => exact rfl); (case hT => decide); (case hb => decide +kernel))
  | with_reducible refine go_revL ?_ | with_reducible refine go_revT ?_ | with_reducible refine go_noP ?_ | with_reducible refine go_soP ?_ | with_reducible refine go_slice ?_
  | ((with_reducible refine go_ix (d := ?d) ?hh ?hq); (case hh => first | assumption | exact rfl))
  | ((with_reducible refine go_mod ?hn ?hq); try (case hn => first | decide | omega)) | ((with_reducible refine go_fdiv ?hn ?hm ?hq); try (case hn => first | decide | omega); try (case hm => first | decide | assumption | exact lg1 (by omega)))
  | with_reducible refine go_mul9 ?_ | ((with_reducible refine go_mul ?hn ?hq); try (case hn => first | decide | assumption | (exact lg2 (by omega) (by omega)))) | with_reducible refine go_pow8 ?_ | with_reducible refine go_mul9 ?_ | ((with_reducible refine go_pow ?hn ?hm ?hq); try (case hn => decide); try (case hm => first | decide | assumption))
  | with_reducible refine go_fn1 ?_ | with_reducible refine go_fn2 ?_ | with_reducible refine go_fn3 ?_ | with_reducible refine go_fn4 ?_ | with_reducible refine go_fn5 ?_ | with_reducible refine go_fn6 ?_
  | ((with_reducible refine go_addSL ?hn ?hq); (case hn => first | (simp only [List.length_cons, List.length_nil, List.length_append]; omega) | omega))
  | ((with_reducible refine go_kdIx (f := ?f) ?hh ?hq); (case hh => exact rfl)) | with_reducible refine go_kdIn ?_
  | ((with_reducible refine go_callL (y := ?y) (ps := ?ps) (F := ?F) ?hh ?ht ?hq); (case hh => exact rfl); (case ht => repeat (first | with_reducible exact tab_hd | with_reducible refine tab_tl (by decide +kernel) ?_)))
  | ((with_reducible refine go_lenEq ?hh ?hq); (case hh => exact rfl))
  | ((with_reducible refine go_star (ds := ?ds) (bs := ?bs) ?hd ?hb ?hh ?hq); (case hd => exact rfl); (case hb => (simp only [List.length_cons, List.length_nil]; omega)); (case hh => exact rfl))
  | ((with_reducible refine go_lrng2 ?hn ?hq); (case hn => omega)) | ((with_reducible refine go_lrng1 ?hn ?hq); (case hn => omega))
  | ((with_reducible refine go_rep ?h1 ?h2 ?h3 ?hq); (case h1 => simp); (case h2 => omega); (case h3 => (simp only [List.length_cons, List.length_nil]; omega)))
  | with_reducible refine go_slT ?_ | with_reducible refine go_slL ?_ | with_reducible refine go_addCT (by omega) ?_ | with_reducible refine go_addCL (by omega) ?_
  | with_reducible refine go_tt ?_ | with_reducible refine go_ff ?_ | with_reducible refine go_ntt ?_ | with_reducible refine go_nff ?_
  | ((with_reducible refine go_dt ?hp ?hq); (case hp => first | (with_reducible rfl) | omega | decide | decide +kernel)) | ((with_reducible refine go_df ?hp ?hq); (case hp => first | (with_reducible rfl) | omega | decide | decide +kernel)) | with_reducible refine go_d (fun hc => ?_) (fun hc => ?_)
  | ((with_reducible refine go_ndt ?hp ?hq); (case hp => first | (with_reducible rfl) | omega | decide | decide +kernel)) | ((with_reducible refine go_ndf ?hp ?hq); (case hp => first | (with_reducible rfl) | omega | decide | decide +kernel)) | with_reducible refine go_nd (fun hc => ?_) (fun hc => ?_)
  | (with_reducible refine And.intro (fun hc => ?_) (fun hc => ?_))
  | walk_at "ev2")
local macro_rules | `(tactic| walk_at "nm") => `(tactic| ((with_reducible refine go_nm (env' := ?en) ?hh ?hq); (case hh => first | (dsimp only [List.set, bindE, setAll, List.foldl, List.map, List.cons_append, List.nil_append, List.replicate, wipeE]; exact rfl) | exact rfl)))
local macro_rules | `(tactic| walk_at "ev1") => `(tactic| first | walk_at "nm" | walk_at "ev1b")
local macro_rules | `(tactic| walk_at "ev") => `(tactic| repeat' walk_at "ev1")
local macro_rules | `(tactic| walk_at "evs") => `(tactic| ((try walk_at "nm"); repeat' walk_at "ev1b"))

local macro_rules | `(tactic| walk_at "ev2") => `(tactic| first
  | (with_reducible refine draw ‹_› (by omega) (by omega) (by omega) fun r st1 r0 r1 h1 hl => ?_)
  | with_reducible refine go_pick (by omega) (by first | omega | (simp only [List.length_cons, List.length_nil]; omega)) ?_ | with_reducible refine go_pickT (by omega) (by first | omega | (simp only [List.length_cons, List.length_nil]; omega)) ?_
  | with_reducible refine all_mem1 ?_ ?_ | with_reducible exact all_mem0
  | walk_at "evo")

local macro_rules | `(tactic| walk_at "ev0") => `(tactic| first
  | with_reducible refine toRefU ‹_› fun p st1 hu => ?_
  | with_reducible refine toRefDU ‹_› fun p st1 hu => ?_
  | with_reducible refine go_pickW (by omega) (by walk_at "lt") (by decide +kernel) fun w gw => ?_)

/-- what the settling tells -/
def setl (now : Str) : Option (Str × Str) := if now = "asking" then some ("held", "hold") else if now = "clearing" then some ("clear", "free") else none
def now2 (now : Str) : Str := ((setl now).map (·.1)).getD now
def own2 (now own : Str) : Str := ((setl now).map (·.2)).getD own
theorem lk_set {now : Str} (h : now ∈ NW) : lkT kt_SETTLED now = (setl now).map fun z => [z.1, z.2] := by
  simp only [List.mem_cons, List.not_mem_nil, or_false] at h
  rcases h with rfl | rfl | rfl | rfl | rfl <;> decide +kernel
theorem now2_nw {now : Str} (h : now ∈ NW) : now2 now ∈ NW := by
  simp only [List.mem_cons, List.not_mem_nil, or_false] at h
  rcases h with rfl | rfl | rfl | rfl | rfl <;> decide +kernel
theorem own2_w4 {now own : Str} (h : own ∈ W4) : own2 now own ∈ W4 := by
  unfold own2 setl
  split
  · exact (by decide +kernel : (Str.ofString "hold") ∈ W4)
  · split
    · exact (by decide +kernel : (Str.ofString "free") ∈ W4)
    · exact h
theorem gd_nw {x : Str} {N n : Nat} (h : x ∈ NW) : Gd N n 10 (.str x) := by
  simp only [List.mem_cons, List.not_mem_nil, or_false] at h
  rcases h with rfl | rfl | rfl | rfl | rfl <;> exact gd_str (by decide +kernel) (by decide +kernel)
theorem agr_mem {k : Nat} {as : List Int} {x : Int} : x ∈ agrI k as ↔ (1 ≤ x ∧ x < 1 + (k : Int)) ∧ x ∈ as := by
  unfold agrI
  rw [List.mem_filter, mem_rngI, decide_eq_true_iff]
theorem agr_lt {k : Nat} {as : List Int} : (agrI k as).Pairwise (· < ·) := lt_rngI.sublist List.filter_sublist
theorem sil_agr {k : Nat} {as : List Int} : silI k (agrI k as) = silI k as := by
  unfold silI
  refine List.filter_congr fun x hx => ?_
  have hx' := mem_rngI.mp hx
  have e : x ∈ agrI k as ↔ x ∈ as := agr_mem.trans ⟨fun h => h.2, fun h => ⟨hx', h⟩⟩
  rw [decide_eq_decide.mpr e]
theorem srt_app {k : Nat} {as : List Int} {p : Int} (hp : 1 ≤ p ∧ p < 1 + (k : Int)) (hn : p ∉ as) : srt (agrI k as ++ [p]) = agrI k (as ++ [p]) := by
  refine (srt_uniq ?_ (agr_lt.imp fun h => Int.le_of_lt h)).symm
  refine (List.perm_ext_iff_of_nodup ?_ ?_).mpr fun x => ?_
  · exact (agr_lt (k := k) (as := as ++ [p])).imp fun h => Int.ne_of_lt h
  · refine List.nodup_append.mpr ⟨(agr_lt (k := k) (as := as)).imp fun h => Int.ne_of_lt h, by simp, fun a ha b hb e => ?_⟩
    have hb' : b = p := by simpa using hb
    rw [e, hb'] at ha
    exact hn (agr_mem.mp ha).2
  · rw [agr_mem, List.mem_append, List.mem_append, agr_mem]
    constructor
    · rintro ⟨h1, h2 | h2⟩
      · exact .inl ⟨h1, h2⟩
      · exact .inr h2
    · rintro (⟨h1, h2⟩ | h2)
      · exact ⟨h1, .inl h2⟩
      · have h3 : x = p := by simpa using h2
        exact ⟨by rw [h3]; exact hp, .inr h2⟩
theorem gd_let {k : Nat} {t : Int} {told : List Str} {as : List Int} (hk : k ≤ 100) (ht : t.natAbs < 10 ^ 12) (hl : told.length = k + 1) (hw : ∀ w ∈ told, w ∈ W4) : Gd (10 ^ 12) 2 20100 (.tup ((silI k as).map (letD t told))) := by
  have key : ∀ {xs : List Int}, (∀ x ∈ xs, 1 ≤ x ∧ x < 1 + (k : Int)) → Gds (10 ^ 12) 1 (201 * xs.length) (xs.map (letD t told)) := by
    intro xs
    induction xs with
    | nil => exact fun _ => Gds.nil
    | cons x xs ih =>
      intro h
      have hx := h x List.mem_cons_self
      have h12 : (10 : Nat) ^ 12 = 1000000000000 := by decide
      have hm : wAt told x ∈ W4 := by
        unfold wAt
        rw [List.getD_eq_getElem?_getD, List.getElem?_eq_getElem (by omega)]
        exact hw _ (List.getElem_mem _)
      have g1 : Gd (10 ^ 12) 1 200 (letD t told x) := (Gd.tup (n := 0) (Gds.cons (gd_str (w := 10) (by decide +kernel) (by decide +kernel)) (Gds.cons (gd_int (by omega)) (Gds.cons (gd_int ht) (Gds.cons (gd_w4 hm) (Gds.nil (w := 0))))))).le (Nat.le_refl _) (by decide)
      exact (Gds.cons g1 (ih fun y hy => h y (List.mem_cons_of_mem _ hy))).le (Nat.le_refl _) (by rw [List.length_cons]; omega)
  have hl := sil_len (k := k) (as := as)
  refine (Gd.tup (key fun x hx => ?_)).le (by decide) (by omega)
  exact mem_rngI.mp (List.mem_filter.mp hx).1
theorem eqB_lt {st : Store} {x : D} {xs : List D} {N n w : Nat} (g : Gd N n w (.lst (x :: xs))) (hN : N ≤ 10 ^ 12) (hn : n ≤ 64) : eqB st (.lst (x :: xs)) (.lst []) = some false := by
  obtain ⟨q, e, h1, h2, h3, h4, h5, h6⟩ := pl_pd hN _ g.1
  have a1 : pdR st (.lst (x :: xs)) = some q := pdR_of e
  have a2 : pdR st (.lst []) = some (.list []) := pdR_of rfl
  have s1 := shaped_of g hN hn e
  have s2 : SeqAt.shaped (.list []) = true := by decide +kernel
  have e' : (D.pds (x :: xs)).map PyData.list = some q := e
  have hq : PyData.eqv q (.list []) = false := by
    unfold D.pds at e'
    split at e'
    · cases e'
      rfl
    · cases e'
  show (match pdR st (.lst (x :: xs)), pdR st (.lst []) with
    | some a, some b => if SeqAt.shaped a = true ∧ SeqAt.shaped b = true then some (PyData.eqv a b) else none
    | _, _ => none) = _
  rw [a1, a2]
  simp only [s1, s2, and_self, if_true, hq]
theorem go_eqLE {st : Store} {P : D → Store → Prop} {ds : List D} (g : Gd (10 ^ 12) 64 1000000 (.lst ds)) (q : P (.bl ds.isEmpty) st) : (eqD (.lst ds) (.lst []) st).holds E P := by
  cases ds with
  | nil => exact go_eqG gd_l0 q
  | cons x xs => exact go_eqX (eqB_lt g (Nat.le_refl _) (Nat.le_refl _)) q
theorem go_phasesI {ws : List Str} {ys : List D} {st : Store} {P : D → Store → Prop} {now : Str} (e : ys = ws.map D.str) (h : ∀ x ∈ ws, x ∈ NW) (hn : now ∈ NW) (q : P (.bl (ws.any fun w => w == now)) st) : (inD (.str now) (.lst ys) st).holds E P := go_inLS e (okS_mem h) (okS_nw hn) q
theorem mem_srt {ts : List Int} {x : Int} : x ∈ srt ts ↔ x ∈ ts := (List.mergeSort_perm ts _).mem_iff
theorem go_sortI {st : Store} {ts : List Int} {PS : EV.Slot → Store → Prop} (q : PS (.ol (IL (srt ts))) st) : (sortedD [.lst (IL ts)] st).holds E PS := by
  show Res.holds (match intsOf (IL ts) with
    | some ns => .ok (.ol ((srt ns).map .int)) st
    | none => .stuck) E PS
  rw [intsOf_IL]
  exact q
section
variable {L : List (Nat × SObj)} {B u : Nat} {st : Store} {P : D → Store → Prop} {k c d n : Nat} {t p tt : Int} {now own ph ow kd : Str} {told told' : List Str} {as : List Int}
theorem go_hear_old (h : st[c]? = some (CHF k t now own told d)) (ht : ¬ tt = t) (q : P (.bl false) st) : (F_Chief_hear [.ref c, .tup [.str kd, .int p, .int tt]] st).holds E P := by
  unfold F_Chief_hear
  with_reducible refine go_fn (n := 2) (by simp only [List.length_cons, List.length_nil]) ?_
  unfold B_Chief_hear
  walk_at "ev"
  exact q
/-- an answer heard by the chief -/
theorem go_hearC (hu : UrnL ((c, CHF k t now own told d) :: (d, AGC as) :: L) B st u) (hk : k ≤ 100) (hl : as.length ≤ 100) (hn : now ∈ NW)
    (q0 : (¬ tt = t ∨ p ∈ as) → P (.bl false) st)
    (q1 : tt = t → p ∉ as → ∀ st', UrnL ((c, CHF k t (if silI k (as ++ [p]) = [] then now2 now else now) (if silI k (as ++ [p]) = [] then own2 now own else own) told d) :: (d, AGC (as ++ [p])) :: L) B st' u → P (.bl true) st') : (F_Chief_hear [.ref c, .tup [.str kd, .int p, .int tt]] st).holds E P := by
  by_cases h1 : tt = t
  · subst h1
    by_cases h2 : p ∈ as
    · exact go_hear_no (hu.any (i := 0) rfl) (hu.any (i := 1) rfl) h2 (q0 (.inr h2))
    · exact go_hear_yes hu hk h2 hl (lk_set hn) fun st' h => q1 rfl h2 st' h
  · exact go_hear_old (hu.any (i := 0) rfl) h1 (q0 (.inl h1))
/-- an answer heard by the law's book -/
theorem go_lhears (hu : UrnL ((n, LST t now own told as) :: L) B st u) (hk : 1 ≤ k ∧ k ≤ 100) (hl : told.length = k + 1) (ha : ∀ x ∈ as, 1 ≤ x ∧ x < 1 + (k : Int)) (hz : as.length ≤ 100) (hp : 1 ≤ p ∧ p < 1 + (k : Int)) (hn : now ∈ NW)
    (q0 : (¬ tt = t ∨ p ∈ as) → P (.bl false) st)
    (q1 : tt = t → p ∉ as → ∀ st', UrnL ((n, LST t (if silI k (srt (as ++ [p])) = [] then now2 now else now) (if silI k (srt (as ++ [p])) = [] then own2 now own else own) told (srt (as ++ [p]))) :: L) B st' u → P (.bl true) st') : (F__law_chief_hears [.ref n, .tup [.str kd, .int p, .int tt]] st).holds E P := by
  unfold F__law_chief_hears
  with_reducible refine go_fn (n := 2) (by simp only [List.length_cons, List.length_nil]) ?_
  unfold B__law_chief_hears
  have h12 : (10 : Nat) ^ 12 = 1000000000000 := by decide
  have hs := hu.any (i := 0) rfl
  have hin : inB (.int p) (IL as) = some (decide (p ∈ as)) := inB_ints (fun i hi => by have := ha i hi; omega) (by omega)
  walk_at "ev"
  · rename_i hc
    exact q0 (.inl hc)
  · rename_i hc
    with_reducible refine go_inL hin ?_
    by_cases h2 : p ∈ as
    · rw [decide_eq_true h2]
      walk_at "ev"
      exact q0 (.inr h2)
    · rw [decide_eq_false h2]
      walk_at "ev"
      have e0 : IL as ++ [.int p] = IL (as ++ [p]) := (List.map_append (f := D.int) (l₁ := as) (l₂ := [p])).symm
      rw [e0]
      with_reducible refine go_sortI ?_
      have hu1 := hu.put (i := 0) (o' := LST t now own told (srt (as ++ [p]))) rfl
      dsimp only [List.set] at hu1
      have hs1 := hu1.any (i := 0) rfl
      have ha1 : ∀ x ∈ srt (as ++ [p]), 1 ≤ x ∧ x < 1 + (k : Int) := fun x hx => by
        rcases List.mem_append.mp (mem_srt.mp hx) with h | h
        · exact ha x h
        · have e : x = p := by simpa using h
          rw [e]
          exact hp
      replace q1 := q1 hc h2
      clear hu hin e0
      walk_at "ev"
      revert hu1 hs1
      generalize List.set st n (LST t now own told (srt (as ++ [p]))) = s1
      intro hu1 hs1
      with_reducible refine go_lsilent hs1 hl hk.2 ha1 ?_
      walk_at "ev"
      with_reducible refine go_eqLE (gd_silL hk.2) ?_
      cases hse : silI k (srt (as ++ [p])) with
      | cons x xs =>
        have e1 : (IL (x :: xs)).isEmpty = false := rfl
        rw [e1]
        walk_at "ev"
        refine q1 _ ?_
        rw [hse]
        exact hu1
      | nil =>
        have e1 : (IL ([] : List Int)).isEmpty = true := rfl
        rw [e1]
        rw [hse, if_pos rfl, if_pos rfl] at q1
        walk_at "ev"
        with_reducible refine go_phasesI (ws := ["asking", "clearing"]) rfl (fun x hx => by simp only [List.mem_cons, List.not_mem_nil, or_false] at hx ⊢; rcases hx with rfl | rfl <;> simp) hn ?_
        simp only [List.mem_cons, List.not_mem_nil, or_false] at hn
        rcases hn with rfl | rfl | rfl | rfl | rfl
        · rw [show (([Str.ofString "asking", Str.ofString "clearing"] : List Str).any fun w => w == Str.ofString "clear") = false by decide +kernel]
          walk_at "ev"
          exact q1 _ hu1
        · rw [show (([Str.ofString "asking", Str.ofString "clearing"] : List Str).any fun w => w == Str.ofString "dealt") = false by decide +kernel]
          walk_at "ev"
          exact q1 _ hu1
        · rw [show (([Str.ofString "asking", Str.ofString "clearing"] : List Str).any fun w => w == Str.ofString "asking") = true by decide +kernel]
          walk_at "ev"
          rename_i p2 s2 hu2
          have hu3 := hu2.put (i := 1) (o' := LST t "asking" "hold" told (srt (as ++ [p]))) rfl
          dsimp only [List.set] at hu3
          clear hu1 hs1
          have hu4 := hu3.push (o := .cell (.od false [(.k (.inr "asking"), .str "held"), (.k (.inr "clearing"), .str "clear")]))
          walk_at "ev"
          have hu5 := hu4.put (i := 2) (o' := LST t "held" "hold" told (srt (as ++ [p]))) rfl
          dsimp only [List.set] at hu5
          exact q1 _ (hu5.sub ((List.sublist_cons_self _ _).trans (List.sublist_cons_self _ _)))
        · rw [show (([Str.ofString "asking", Str.ofString "clearing"] : List Str).any fun w => w == Str.ofString "held") = false by decide +kernel]
          walk_at "ev"
          exact q1 _ hu1
        · rw [show (([Str.ofString "asking", Str.ofString "clearing"] : List Str).any fun w => w == Str.ofString "clearing") = true by decide +kernel]
          walk_at "ev"
          rename_i p2 s2 hu2
          have hu3 := hu2.put (i := 1) (o' := LST t "clearing" "free" told (srt (as ++ [p]))) rfl
          dsimp only [List.set] at hu3
          clear hu1 hs1
          have hu4 := hu3.push (o := .cell (.od false [(.k (.inr "asking"), .str "held"), (.k (.inr "clearing"), .str "clear")]))
          walk_at "ev"
          have hu5 := hu4.put (i := 2) (o' := LST t "clear" "free" told (srt (as ++ [p]))) rfl
          dsimp only [List.set] at hu5
          exact q1 _ (hu5.sub ((List.sublist_cons_self _ _).trans (List.sublist_cons_self _ _)))
/-- the chief stands as the law's book -/
theorem go_stands (hc : st[c]? = some (CHF k t now own told d)) (hd : st[d]? = some (AGC as)) (hs : st[n]? = some (LST t now own told (agrI k as))) (hk : 1 ≤ k ∧ k ≤ 100) (hl : told.length = k + 1) (ht : t.natAbs < 10 ^ 12) (hn : now ∈ NW) (ho : own ∈ W4) (hw : ∀ w ∈ told, w ∈ W4)
    (q : P (.bl true) st) : (F__law_chief_stands [.ref c, .ref n] st).holds E P := by
  unfold F__law_chief_stands
  with_reducible refine go_fn (n := 2) (by simp only [List.length_cons, List.length_nil]) ?_
  unfold B__law_chief_stands
  have hz : (agrI k as).length ≤ 100 := Nat.le_trans (List.length_filter_le _ _) (by rw [len_rngI]; exact hk.2)
  have g : Gd (10 ^ 12) 64 1000000 (.tup [.int t, .str now, .str own, .tup (IL (agrI k as)), .tup ((silI k as).map (letD t told))]) := by
    have h12 : (10 : Nat) ^ 12 = 1000000000000 := by decide
    refine (Gd.tup (n := 2) (w := 40 + 1 + (10 + 1 + (10 + 1 + (4100 + 1 + (20100 + 1 + 0))))) ?_).le (by decide) (by decide)
    refine Gds.cons (gd_int ht) (Gds.cons (gd_nw hn) (Gds.cons (gd_w4 ho) (Gds.cons ?_ (Gds.cons (gd_let hk.2 ht hl hw) Gds.nil))))
    exact (Gd.tup (gds_IL fun i hi => by have := (agr_mem.mp hi).1; omega)).le (by decide) (by omega)
  walk_at "ev"
  with_reducible refine go_chief_turn hc ?_
  walk_at "ev"
  with_reducible refine go_chief_phase hc ?_
  walk_at "ev"
  with_reducible refine go_chief_word hc ?_
  walk_at "ev"
  with_reducible refine go_chief_agreed hc hd hk.2 ?_
  walk_at "ev"
  with_reducible refine go_chief_letters hc hd hk.2 hl ?_
  walk_at "ev"
  with_reducible refine go_lletters hs hk.2 hl (fun x hx => (agr_mem.mp hx).1) ?_
  rw [sil_agr]
  walk_at "ev"
  with_reducible refine go_shw g (Nat.le_refl _) (Nat.le_refl _) (Nat.le_refl _) ?_
  walk_at "ev"
  with_reducible refine go_shw g (Nat.le_refl _) (Nat.le_refl _) (Nat.le_refl _) ?_
  walk_at "ev"
  rw [decide_eq_true rfl]
  exact q
end
end LAW

set_option maxRecDepth 100000
set_option autoImplicit false
set_option maxHeartbeats 2000000
set_option linter.all false
set_option pp.maxSteps 3000
set_option pp.deepTerms false
namespace LAW
open PySem EV L2 PyProof.Rows
variable {E : ErP} {Ee : ErS}
local macro_rules | `(tactic| walk_at "gdl") => `(tactic| first
  | with_reducible exact Gd.fitw gd_non (by decide) | with_reducible exact Gd.fitw gd_bl (by decide)
  | ((with_reducible refine Gd.fitw (gd_int ?h) ?c); (case h => omega); (case c => decide))
  | ((with_reducible refine Gd.fit (N := ?N) (n := ?n) (w := ?w) ?h ?a ?b ?c); (case h => assumption); (case a => decide); (case b => decide); (case c => decide))
  | ((with_reducible refine Gd.fitw (gd_str (w := 50) ?h ?hw) ?c); (case h => decide +kernel); (case hw => decide +kernel); (case c => decide)))
local macro_rules | `(tactic| walk_at "gd") => `(tactic| first
  | walk_at "gdl"
  | ((with_reducible refine Gd.tupP ?h ?q); (case h => decide); (case q => walk_at "gds")) | ((with_reducible refine Gd.lstP ?h ?q); (case h => decide); (case q => walk_at "gds")))
local macro_rules | `(tactic| walk_at "gds") => `(tactic| first
  | with_reducible exact Gds.nil
  | ((with_reducible refine Gds.consL ?h1 ?h3 ?h2); (case h1 => walk_at "gdl"); (case h3 => decide); (case h2 => walk_at "gds"))
  | ((with_reducible refine Gds.consH ?h1 ?h3 ?h2); (case h1 => walk_at "gd"); (case h3 => decide); (case h2 => walk_at "gds")))
local macro_rules | `(tactic| walk_at "shw") => `(tactic| ((with_reducible refine go_shw (N := 10 ^ 12) (n := 64) (w := 1000000) ?h (Nat.le_refl _) (Nat.le_refl _) (Nat.le_refl _) ?hq); (case h => walk_at "gd")))
local macro_rules | `(tactic| walk_at "same") => `(tactic| first
  | ((with_reducible refine go_neG ?h ?hq); (case h => walk_at "gd")) | ((with_reducible refine go_eqG ?h ?hq); (case h => walk_at "gd")))
local macro_rules | `(tactic| walk_at "len") => `(tactic| first
  | (simp only [List.length_cons, List.length_nil, Nat.reduceAdd, Nat.reduceLeDiff]; done)
  | (simp only [List.length_cons, List.length_nil, List.length_append, List.length_map]; omega) | omega)
local macro_rules | `(tactic| walk_at "cell") => `(tactic| first
  | assumption
  | ((with_reducible refine get_set (o := ?oo) ?hh); (case hh => walk_at "cell"))
  | exact UrnL.get ‹_› (by repeat' (first | with_reducible exact List.mem_cons_self | with_reducible refine List.mem_cons_of_mem _ ?_)))
local macro_rules | `(tactic| walk_at "lkf") => `(tactic| repeat (first | with_reducible exact lkF_nil | with_reducible exact lkF_hd | with_reducible refine lkF_tl (by decide +kernel) ?_))
local macro_rules | `(tactic| walk_at "tab") => `(tactic| repeat (first | with_reducible exact tab_hd | with_reducible refine tab_tl (by decide +kernel) ?_))
local macro_rules | `(tactic| walk_at "lkd") => `(tactic| repeat (first | with_reducible exact lkd_hd | with_reducible refine lkd_tl (by decide +kernel) ?_))
local macro_rules | `(tactic| walk_at "ndp") => `(tactic| first | with_reducible exact nd_hd | ((with_reducible refine nd_tl (r' := ?r2) ?hd ?hq); (case hd => decide +kernel); (case hq => walk_at "ndp")))
local macro_rules | `(tactic| walk_at "mem") => `(tactic| repeat (first | with_reducible exact List.mem_cons_self | with_reducible refine List.mem_cons_of_mem _ ?_))
local macro_rules | `(tactic| walk_at "evo") => `(tactic| first
  | ((with_reducible refine go_le1000 ?h ?hq); (case h => walk_at "len"))
  | ((with_reducible refine go_isiR (ds := ?ds) ?h ?hq); (case h => walk_at "cell")) | with_reducible refine go_par ?_ | with_reducible refine go_par2 ?_ | with_reducible refine go_vLock ?_ | ((with_reducible refine go_lockR (ds := ?ds) ?h ?hq); (case h => walk_at "cell"))
  | ((with_reducible refine go_addL ?h ?hq); (case h => walk_at "len")) | ((with_reducible refine go_addT ?h ?hq); (case h => walk_at "len"))
  | with_reducible refine go_enumL ?_ | with_reducible refine go_enumT ?_ | with_reducible refine go_zipL ?_ | with_reducible refine go_zipT ?_ | with_reducible refine go_revdL ?_ | with_reducible refine go_revdT ?_
  | ((with_reducible refine go_gTpK ?hl ?hq); (case hl => exact rfl)) | with_reducible refine go_inK ?_
  | with_reducible refine go_par3 ?_ | with_reducible refine go_par3e ?_ | ((with_reducible refine go_ext (ds := ?ds) ?h ?hq); (case h => exact rfl)) | ((with_reducible refine go_ext1 ?h ?hq); (case h => walk_at "len"))
  | with_reducible refine go_vMeth ?_ | ((with_reducible refine go_mlen ?h ?hq); (case h => exact rfl))
  | with_reducible refine lcp_nil ?_ | ((with_reducible refine lcp_consY (bs := ?bs) ?hb ?hq); (case hb => exact rfl)) | ((with_reducible refine lcp_cons (bs := ?bs) ?hb ?hq); (case hb => exact rfl))
  | ((with_reducible refine go_methD (C := ?C) (fs := ?fs) (ps := ?ps) (F := ?F) ?h ?hl ?ht ?hq); (case h => walk_at "cell"); (case hl => walk_at "lkf"); (case ht => walk_at "tab"))
  | ((with_reducible refine go_fld (C := ?C) (fs := ?fs) (d := ?d) ?h ?hm ?hl ?hq); (case h => walk_at "cell"); (case hm => walk_at "mem"); (case hl => walk_at "lkf"))
  | with_reducible refine go_gFld ?_ | with_reducible refine ns_hd ?_ | with_reducible refine ns_tl (by decide +kernel) ?_ | with_reducible refine ns_nil ?_
  | ((with_reducible refine go_setF (C := ?C) (fs := ?fs) ?h ?hm ?hz ?hq); (case h => walk_at "cell"); (case hm => walk_at "mem"); (case hz => walk_at "lt"))
  | ((with_reducible refine go_gTp ?hl ?hq); (case hl => exact rfl)) | with_reducible refine go_gsC ?_ | with_reducible refine go_gsN ?_ | with_reducible refine go_gN ?_
  | with_reducible refine go_fldA ?_
  | ((with_reducible refine go_augF (C := ?C) (fs := ?fs) (i := ?i) ?h ?hm ?hl ?hz ?hq); (case h => walk_at "cell"); (case hm => walk_at "mem"); (case hl => walk_at "lkf"); (case hz => walk_at "lt"))
  | with_reducible refine go_vBm ?_ | ((with_reducible refine go_isLR (ds := ?ds) ?h ?hq); (case h => walk_at "cell"))
  | ((with_reducible refine go_appD (ds := ?ds) ?h ?hz ?hq); (case h => walk_at "cell"); try (case hz => walk_at "lt"))
  | with_reducible refine go_vBd ?_ | ((with_reducible refine go_isDR (kvs := ?kvs) (k := ?k) ?h ?hq); (case h => walk_at "cell"))
  | with_reducible refine go_dnew ?_ | with_reducible refine go_toRefD ?_
  | with_reducible refine go_isN1 ?_ | with_reducible refine go_isN2 ?_ | with_reducible refine go_isN3 ?_ | with_reducible refine go_isN4 ?_ | with_reducible refine go_isN5 ?_ | with_reducible refine go_isN6 ?_
  | with_reducible refine go_isntN1 ?_ | with_reducible refine go_isntN2 ?_ | with_reducible refine go_isntN3 ?_ | with_reducible refine go_isntN4 ?_ | with_reducible refine go_isntN5 ?_ | with_reducible refine go_isntN6 ?_
  | ((with_reducible refine go_lenR (ds := ?ds) ?h ?hq); (case h => walk_at "cell"))
  | ((with_reducible refine go_lenRD (kvs := ?kvs) ?h ?hq); (case h => walk_at "cell"))
  | ((with_reducible refine go_tupR (ds := ?ds) ?h ?hq); (case h => walk_at "cell")) | ((with_reducible refine go_listR (ds := ?ds) ?h ?hq); (case h => walk_at "cell"))
  | ((with_reducible refine go_ixS (t := ?tt) (kvs := ?kvs) (d := ?d) ?h ?hl ?hq); (case h => walk_at "cell"); (case hl => walk_at "lkd"))
  | ((with_reducible refine go_setRS (kvs := ?kvs) (kvs' := ?kv2) ?h ?hz ?he ?hq); (case h => walk_at "cell"); (case hz => walk_at "lt"); (case he => walk_at "ndp"))
  | ((with_reducible refine go_disp ?hq)) | ((with_reducible refine go_ds (kvs := ?kvs) ?l ?e ?hq); (case l => exact rfl); (case e => (simp only [zipS_cons, zipS_nil]; exact rfl)))
  | ((with_reducible refine go_ixR (ds := ?ds) (d := ?d) ?h ?hi ?hq); (case h => walk_at "cell"); (case hi => exact rfl))
  | ((with_reducible refine go_setRL (ds := ?ds) (k := ?k) ?h ?hi ?hq); (case h => walk_at "cell"); (case hi => exact rfl))
  | fail)
local macro_rules | `(tactic| walk_at "lt") => `(tactic| first
  | (simp only [List.length_cons, List.length_nil, Nat.reduceAdd, Nat.reduceLTLE, Nat.reduceLeDiff]; done) | walk_at "len")
local macro_rules | `(tactic| walk_at "ev1b") => `(tactic| first
  | walk_at "ev0"
  | with_reducible refine go_seq ?_ | with_reducible refine go_c ?_ | with_reducible refine go_v2 ?_ | with_reducible refine go_vCons ?_ | with_reducible refine go_vNil ?_ | with_reducible refine go_vA ?_
  | ((with_reducible refine go_name (d := ?d) ?hh ?hq); (case hh => exact rfl))
  | with_reducible refine go_set ?_ | with_reducible refine go_if ?_ | with_reducible refine go_vB ?_ | with_reducible refine go_ret ?_ | with_reducible refine go_bl ?_ | with_reducible refine go_in ?_ | with_reducible refine go_in2 ?_
  | with_reducible refine go_add ?_ | with_reducible refine go_sub ?_ | with_reducible refine go_neg ?_
  | with_reducible refine go_lt ?_ | with_reducible refine go_le ?_ | with_reducible refine go_gt ?_ | with_reducible refine go_ge ?_ | with_reducible refine go_eqI ?_ | with_reducible refine go_neI ?_ | with_reducible refine go_eqS ?_ | with_reducible refine go_neS ?_ | with_reducible refine go_isB ?_ | with_reducible refine go_isntB ?_
  | with_reducible refine go_vNot ?_ | with_reducible refine go_vAnd ?_ | with_reducible refine go_vOr ?_ | with_reducible refine go_vAndV ?_ | with_reducible refine go_vOrV ?_ | with_reducible refine go_vNotV ?_ | with_reducible refine go_vIf ?_ | with_reducible refine go_chain ?_
  | with_reducible refine go_vFrz ?_ | with_reducible refine go_vRef ?_ | with_reducible refine go_vSl ?_ | with_reducible refine go_frz ?_ | with_reducible refine go_frz2 ?_ | with_reducible refine go_toRef ?_
  | ((with_reducible refine go_mkTup ?hn ?hq); (case hn => walk_at "len"))
  | ((with_reducible refine go_mkLst ?hn ?hq); (case hn => walk_at "len"))
  | with_reducible refine go_setS ?_ | with_reducible refine go_asg ?_ | ((with_reducible refine go_pat (bs := ?bs) ?hh ?hq); (case hh => exact rfl)) | with_reducible refine go_subR ?_
  | with_reducible refine go_nil ?_ | with_reducible refine go_retN ?_ | with_reducible refine go_expr ?_ | with_reducible refine go_v1 ?_ | with_reducible refine go_for ?_
  | ((with_reducible refine go_appN (ds := ?ds) ?hh ?hn ?hq); (case hh => exact rfl); try (case hn => (first | (simp only [List.length_cons, List.length_nil, Nat.reduceAdd, Nat.reduceLTLE, Nat.reduceLeDiff]; done) | walk_at "len"))) | ((with_reducible refine go_ixO (ds := ?ds) ?hh ?hq); (case hh => exact rfl)) | ((with_reducible refine go_lenO (ds := ?ds) ?hh ?hq); (case hh => exact rfl))
  | ((with_reducible refine go_frzO (ds := ?ds) ?hh ?hq); (case hh => exact rfl)) | ((with_reducible refine go_frzV (d := ?d) ?hh ?hq); (case hh => exact rfl))
  | with_reducible refine go_seqL ?_ | with_reducible refine go_seqT ?_ | with_reducible refine go_abs ?_ | with_reducible refine go_max2 ?_ | with_reducible refine go_min2 ?_ | with_reducible refine go_intI ?_ | with_reducible refine go_intB ?_
  | with_reducible refine go_lenL ?_ | with_reducible refine go_lenT ?_ | with_reducible refine go_lenC ?_ | with_reducible refine go_listL ?_ | with_reducible refine go_listT ?_ | with_reducible refine go_tupL ?_ | with_reducible refine go_tupT ?_
  | ((with_reducible refine go_isiT (a := ?a) ?hh ?hT ?hb ?hq); (case hh => exact rfl); (case hT => decide); (case hb => decide +kernel)) | ((with_reducible refine go_isiF (a := ?a) ?hh ?hT ?hb ?hq); (case hh => exact rfl); (case hT => decide); (case hb => decide +kernel))
  | ((with_reducible refine go_isi2T (a := ?a) ?hh ?hT ?hb ?hq); (case hh => exact rfl); (case hT => decide); (case hb => decide +kernel)) | ((with_reducible refine go_isi2F (a := ?a) ?hh ?hT ?hb ?hq); (case hh => exact rfl); (case hT => decide); (case hb => decide +kernel))
  | with_reducible refine go_revL ?_ | with_reducible refine go_revT ?_ | with_reducible refine go_noP ?_ | with_reducible refine go_soP ?_ | with_reducible refine go_slice ?_
  | ((with_reducible refine go_ix (d := ?d) ?hh ?hq); (case hh => first | assumption | exact rfl))
  | ((with_reducible refine go_mod ?hn ?hq); try (case hn => first | decide | omega)) | ((with_reducible refine go_fdiv ?hn ?hm ?hq); try (case hn => first | decide | omega); try (case hm => first | decide | assumption | exact lg1 (by omega)))
  | with_reducible refine go_mul9 ?_ | ((with_reducible refine go_mul ?hn ?hq); try (case hn => first | decide | assumption | (exact lg2 (by omega) (by omega)))) | with_reducible refine go_pow8 ?_ | with_reducible refine go_mul9 ?_ | ((with_reducible refine go_pow ?hn ?hm ?hq); try (case hn => decide); try (case hm => first | decide | assumption))
  | with_reducible refine go_fn1 ?_ | with_reducible refine go_fn2 ?_ | with_reducible refine go_fn3 ?_ | with_reducible refine go_fn4 ?_ | with_reducible refine go_fn5 ?_ | with_reducible refine go_fn6 ?_
  | ((with_reducible refine go_addSL ?hn ?hq); (case hn => first | (simp only [List.length_cons, List.length_nil, List.length_append]; omega) | omega))
  | ((with_reducible refine go_kdIx (f := ?f) ?hh ?hq); (case hh => exact rfl)) | with_reducible refine go_kdIn ?_
  | ((with_reducible refine go_callL (y := ?y) (ps := ?ps) (F := ?F) ?hh ?ht ?hq); (case hh => exact rfl); (case ht => repeat (first | with_reducible exact tab_hd | with_reducible refine tab_tl (by decide +kernel) ?_)))
  | ((with_reducible refine go_lenEq ?hh ?hq); (case hh => exact rfl))
  | ((with_reducible refine go_star (ds := ?ds) (bs := ?bs) ?hd ?hb ?hh ?hq); (case hd => exact rfl); (case hb => (simp only [List.length_cons, List.length_nil]; omega)); (case hh => exact rfl))
  | ((with_reducible refine go_lrng2 ?hn ?hq); (case hn => omega)) | ((with_reducible refine go_lrng1 ?hn ?hq); (case hn => omega))
  | ((with_reducible refine go_rep ?h1 ?h2 ?h3 ?hq); (case h1 => simp); (case h2 => omega); (case h3 => (simp only [List.length_cons, List.length_nil]; omega)))
  | with_reducible refine go_slT ?_ | with_reducible refine go_slL ?_ | with_reducible refine go_addCT (by omega) ?_ | with_reducible refine go_addCL (by omega) ?_
  | with_reducible refine go_tt ?_ | with_reducible refine go_ff ?_ | with_reducible refine go_ntt ?_ | with_reducible refine go_nff ?_
  | ((with_reducible refine go_dt ?hp ?hq); (case hp => first | (with_reducible rfl) | omega | decide | decide +kernel)) | ((with_reducible refine go_df ?hp ?hq); (case hp => first | (with_reducible rfl) | omega | decide | decide +kernel)) | with_reducible refine go_d (fun hc => ?_) (fun hc => ?_)
  | ((with_reducible refine go_ndt ?hp ?hq); (case hp => first | (with_reducible rfl) | omega | decide | decide +kernel)) | ((with_reducible refine go_ndf ?hp ?hq); (case hp => first | (with_reducible rfl) | omega | decide | decide +kernel)) | with_reducible refine go_nd (fun hc => ?_) (fun hc => ?_)
  | (with_reducible refine And.intro (fun hc => ?_) (fun hc => ?_))
  | walk_at "ev2")
local macro_rules | `(tactic| walk_at "nm") => `(tactic| ((with_reducible refine go_nm (env' := ?en) ?hh ?hq); (case hh => first | (dsimp only [List.set, bindE, setAll, List.foldl, List.map, List.cons_append, List.nil_append, List.replicate, wipeE]; exact rfl) | exact rfl)))
local macro_rules | `(tactic| walk_at "ev1") => `(tactic| first | walk_at "nm" | walk_at "ev1b")
local macro_rules | `(tactic| walk_at "ev") => `(tactic| repeat' walk_at "ev1")
local macro_rules | `(tactic| walk_at "evs") => `(tactic| ((try walk_at "nm"); repeat' walk_at "ev1b"))

local macro_rules | `(tactic| walk_at "ev2") => `(tactic| first
  | (with_reducible refine draw ‹_› (by omega) (by omega) (by omega) fun r st1 r0 r1 h1 hl => ?_)
  | with_reducible refine go_pick (by omega) (by first | omega | (simp only [List.length_cons, List.length_nil]; omega)) ?_ | with_reducible refine go_pickT (by omega) (by first | omega | (simp only [List.length_cons, List.length_nil]; omega)) ?_
  | with_reducible refine all_mem1 ?_ ?_ | with_reducible exact all_mem0
  | walk_at "evo")

local macro_rules | `(tactic| walk_at "ev0") => `(tactic| first
  | with_reducible refine toRefU ‹_› fun p st1 hu => ?_
  | with_reducible refine toRefDU ‹_› fun p st1 hu => ?_
  | with_reducible refine go_pickW (by omega) (by walk_at "lt") (by decide +kernel) fun w gw => ?_)

theorem UrnL.up {a b c : Nat × SObj} {L : List (Nat × SObj)} {B u : Nat} {st : Store} (h : UrnL (a :: b :: c :: L) B st u) : UrnL (c :: a :: b :: L) B st u := h.perm (List.perm_middle (l₁ := [a, b])).symm
theorem UrnL.dn {a b c : Nat × SObj} {L : List (Nat × SObj)} {B u : Nat} {st : Store} (h : UrnL (c :: a :: b :: L) B st u) : UrnL (a :: b :: c :: L) B st u := h.perm (List.perm_middle (l₁ := [a, b]))
/-- what holds of chief and book together -/
structure InvC (k : Nat) (now own : Str) (told : List Str) (as : List Int) : Prop where
  len : told.length = k + 1
  wds : ∀ w ∈ told, w ∈ W4
  ph : now ∈ NW
  ow : own ∈ W4
  nd : as.Nodup
  rg : ∀ x ∈ as, 1 ≤ x ∧ x < 1 + (k : Int)
theorem agr_perm {k : Nat} {as : List Int} (nd : as.Nodup) (rg : ∀ x ∈ as, 1 ≤ x ∧ x < 1 + (k : Int)) : (agrI k as).Perm as :=
  (List.perm_ext_iff_of_nodup ((agr_lt (k := k) (as := as)).imp fun h => Int.ne_of_lt h) nd).mpr fun x => agr_mem.trans ⟨fun h => h.2, fun h => ⟨rg x h, h⟩⟩
theorem InvC.lenA {k : Nat} {now own : Str} {told : List Str} {as : List Int} (h : InvC k now own told as) : as.length ≤ k := by
  rw [← (agr_perm h.nd h.rg).length_eq]
  exact Nat.le_trans (List.length_filter_le _ _) (by rw [len_rngI]; exact Nat.le_refl _)
theorem InvC.hear {k : Nat} {now own : Str} {told : List Str} {as : List Int} {p : Int} (h : InvC k now own told as) (hp : 1 ≤ p ∧ p < 1 + (k : Int)) (hn : p ∉ as) : InvC k (if silI k (as ++ [p]) = [] then now2 now else now) (if silI k (as ++ [p]) = [] then own2 now own else own) told (as ++ [p]) := by
  refine ⟨h.len, h.wds, ?_, ?_, ?_, fun x hx => ?_⟩
  · split
    · exact now2_nw h.ph
    · exact h.ph
  · split
    · exact own2_w4 h.ow
    · exact h.ow
  · refine List.nodup_append.mpr ⟨h.nd, by simp, fun a ha b hb e => ?_⟩
    have hb' : b = p := by simpa using hb
    rw [e, hb'] at ha
    exact hn ha
  · rcases List.mem_append.mp hx with h1 | h1
    · exact h.rg x h1
    · have e : x = p := by simpa using h1
      rw [e]
      exact hp
theorem InvC.beg {k : Nat} {ph ow : Str} {ws : List Str} (hl : ws.length = k + 1) (hw : ∀ w ∈ ws, w ∈ W4) (hp : ph ∈ NW) (ho : ow ∈ W4) : InvC k ph ow ws [] := ⟨hl, hw, hp, ho, List.nodup_nil, fun _ h => nomatch h⟩
theorem headD_mem {ws : List Str} {k : Nat} (hl : ws.length = k + 1) (hw : ∀ w ∈ ws, w ∈ W3) : ws.headD "" ∈ W4 := by
  cases ws with
  | nil => exact absurd hl (by simp)
  | cons x xs => exact w34 (hw x List.mem_cons_self)
theorem rep_w4 {w : Str} (h : w ∈ W4) (k : Nat) : ∀ x ∈ List.replicate k w, x ∈ W4 := fun x hx => by rw [List.eq_of_mem_replicate hx]; exact h
theorem agr_nil {k : Nat} : agrI k [] = [] := List.filter_eq_nil_iff.mpr fun x _ => by simp
theorem agr_full {k : Nat} : agrI k (rngI 1 k) = rngI 1 k := List.filter_eq_self.mpr fun x hx => by simpa using hx
theorem InvC.full {k : Nat} : InvC k "clear" "free" (List.replicate (k + 1) "free") (rngI 1 k) := ⟨List.length_replicate, rep_w4 (by decide +kernel) _, by decide +kernel, by decide +kernel, nodup_rngI, fun x hx => by have := mem_rngI.mp hx; omega⟩
theorem gd_none : Gd (10 ^ 12) 64 1000000 (.tup [.str "none", .non]) := (Gd.tup (n := 0) (Gds.cons (gd_str (w := 10) (by decide +kernel) (by decide +kernel)) (Gds.cons gd_non (Gds.nil (w := 0))))).le (by decide) (by decide)
theorem gd_na {k : Nat} {now : Str} {as : List Int} (hk : k ≤ 100) (hn : now ∈ NW) : Gd (10 ^ 12) 64 1000000 (.tup [.str "NotAgreed", .tup [.str now, .tup (IL (silI k as))]]) := by
  have g0 : Gd (10 ^ 12) 1 5000 (.tup (IL (silI k as))) := (Gd.tup (gds_IL (sil_small hk))).le (by decide) (by have := sil_len (k := k) (as := as); omega)
  exact (Gd.tup (n := 2) (Gds.cons (gd_str (w := 10) (by decide +kernel) (by decide +kernel)) (Gds.cons (Gd.tup (n := 1) (Gds.cons (gd_nw hn) (Gds.cons g0 (Gds.nil (w := 0))))) (Gds.nil (w := 0))))).le (by decide) (by decide)
section
variable {L : List (Nat × SObj)} {B u : Nat} {st : Store} {P : D → Store → Prop} {k c d n : Nat} {t p tt : Int} {now own ph ow kd : Str} {told told' : List Str} {as : List Int}
/-- an answer heard by the law's book, told by the chief's row -/
theorem go_lhearsA (hu : UrnL ((n, LST t now own told (agrI k as)) :: L) B st u) (hk : 1 ≤ k ∧ k ≤ 100) (hi : InvC k now own told as) (hp : 1 ≤ p ∧ p < 1 + (k : Int))
    (q0 : (¬ tt = t ∨ p ∈ as) → P (.bl false) st)
    (q1 : tt = t → p ∉ as → ∀ st', UrnL ((n, LST t (if silI k (as ++ [p]) = [] then now2 now else now) (if silI k (as ++ [p]) = [] then own2 now own else own) told (agrI k (as ++ [p]))) :: L) B st' u → P (.bl true) st') : (F__law_chief_hears [.ref n, .tup [.str kd, .int p, .int tt]] st).holds E P := by
  have hz : (agrI k as).length ≤ 100 := Nat.le_trans (List.length_filter_le _ _) (by rw [len_rngI]; exact hk.2)
  refine go_lhears hu hk hi.len (fun x hx => (agr_mem.mp hx).1) hz hp hi.ph (fun h => q0 ?_) (fun h1 h2 st' h => ?_)
  · rcases h with h | h
    · exact .inl h
    · exact .inr (agr_mem.mp h).2
  · have h3 : p ∉ as := fun z => h2 (agr_mem.mpr ⟨hp, z⟩)
    rw [srt_app hp h3, sil_agr] at h
    exact q1 h1 h3 st' h
/-- the chief hears, the book has heard already -/
theorem go_hearI (hu : UrnL ((c, CHF k t now own told d) :: (d, AGC as) :: L) B st u) (hk : 1 ≤ k ∧ k ≤ 100) (hi : InvC k now own told as)
    (q0 : (¬ tt = t ∨ p ∈ as) → P (.bl false) st)
    (q1 : tt = t → p ∉ as → ∀ st', UrnL ((c, CHF k t (if silI k (as ++ [p]) = [] then now2 now else now) (if silI k (as ++ [p]) = [] then own2 now own else own) told d) :: (d, AGC (as ++ [p])) :: L) B st' u → P (.bl true) st') : (F_Chief_hear [.ref c, .tup [.str kd, .int p, .int tt]] st).holds E P :=
  go_hearC hu hk.2 (by have := hi.lenA; omega) hi.ph q0 q1
theorem go_standsI (hu : UrnL ((c, CHF k t now own told d) :: (d, AGC as) :: (n, LST t now own told (agrI k as)) :: L) B st u) (hk : 1 ≤ k ∧ k ≤ 100) (hi : InvC k now own told as) (ht : t.natAbs < 10 ^ 12) (q : P (.bl true) st) : (F__law_chief_stands [.ref c, .ref n] st).holds E P :=
  go_stands (hu.any (i := 0) rfl) (hu.any (i := 1) rfl) (hu.any (i := 2) rfl) hk hi.len ht hi.ph hi.ow hi.wds q
end
/-- a deed that may be done, and what it makes -/
inductive Deed (k : Nat) : Str → Str → D → Str → Str → List Str → Prop
  | deal (now own : Str) (ws : List Str) (l : ws.length = k + 1) (w : ∀ x ∈ ws, x ∈ W3) (h : now = "clear" ∨ now = "held") : Deed k now own (.tup [.str "deal", .tup (ws.map .str)]) "dealt" (ws.headD "") ws
  | ask (own : Str) : Deed k "dealt" own (.tup [.str "ask"]) "asking" own (List.replicate (k + 1) "hold")
  | clear (now own : Str) (h : now = "dealt" ∨ now = "held") : Deed k now own (.tup [.str "clear"]) "clearing" "free" (List.replicate (k + 1) "free")
theorem Deed.inv {k : Nat} {now own now' own' : Str} {line : D} {told' : List Str} (h : Deed k now own line now' own' told') (ho : own ∈ W4) : InvC k now' own' told' [] := by
  cases h with
  | deal _ _ ws l w _ => exact InvC.beg l (fun x hx => w34 (w x hx)) (by decide +kernel) (headD_mem l w)
  | ask => exact InvC.beg List.length_replicate (rep_w4 (by decide +kernel) _) (by decide +kernel) ho
  | clear _ _ _ => exact InvC.beg List.length_replicate (rep_w4 (by decide +kernel) _) (by decide +kernel) (by decide +kernel)
section
variable {L : List (Nat × SObj)} {B u : Nat} {st : Store} {P : D → Store → Prop} {k c d n : Nat} {t : Int} {now own now' own' : Str} {told told' : List Str} {as : List Int} {line : D}
theorem gw_of {ws : List Str} (l : ws.length ≤ 10) (w : ∀ x ∈ ws, x ∈ W3) : Gd 1000 1 1000 (.tup (ws.map .str)) := (Gd.tup (gds_w4 fun x hx => w34 (w x hx))).le (Nat.le_refl _) (by omega)
theorem go_dueD (hd : Deed k now own line now' own' told') (hu : UrnL ((n, LST t now own told (agrI k as)) :: L) B st u) (hk : 1 ≤ k ∧ k ≤ 8) (hi : InvC k now own told as) (hs : silI k as = [])
    (q : ∀ st', UrnL ((n, LST (t + 1) now' own' told' []) :: L) B st' u → P (.tup [.str "none", .non]) st') : (F__law_chief_due [.ref n, line] st).holds E P := by
  have hk9 : 1 ≤ k ∧ k ≤ 100 := by omega
  have ha : ∀ x ∈ agrI k as, 1 ≤ x ∧ x < 1 + (k : Int) := fun x hx => (agr_mem.mp hx).1
  have hs' : silI k (agrI k as) = [] := by rw [sil_agr]; exact hs
  cases hd with
  | deal _ _ ws l w h =>
    have hA : areW (k + 1) (.tup (told'.map .str)) = true := areW_of (by omega) w
    refine go_due_deal hu hk9 hi.len ha hi.ph (gw_of (by omega) w) (Nat.le_refl _) (fun ws' e l' w' hph _ st' h' => ?_) (fun z => by rw [hA] at z; exact Bool.noConfusion z) (fun _ hne => absurd ⟨h, hs'⟩ hne)
    have e1 : ws' = told' := (str_inj (D.tup.inj e)).symm
    subst e1
    exact q _ h'
  | ask => exact go_due_ask hu hk9 hi.len ha hi.ph (fun _ _ st' h' => q _ h') (fun hne => absurd ⟨rfl, hs'⟩ hne)
  | clear _ _ h => exact go_due_clear hu hk9 hi.len ha hi.ph (fun _ _ st' h' => q _ h') (fun hne => absurd ⟨h, hs'⟩ hne)
theorem go_doesD (hd : Deed k now own line now' own' told') (hu : UrnL ((c, CHF k t now own told d) :: (d, AGC as) :: L) B st u) (hk : 1 ≤ k ∧ k ≤ 8) (hi : InvC k now own told as) (hs : silI k as = [])
    (q : ∀ d' st', UrnL ((c, CHF k (t + 1) now' own' told' d') :: (d', AGC []) :: L) B st' u → P (.tup [.str "none", .non]) st') : (F__law_chief_does [.ref c, line] st).holds E P := by
  have hk9 : 1 ≤ k ∧ k ≤ 100 := by omega
  cases hd with
  | deal _ _ ws l w h =>
    have hA : areW (k + 1) (.tup (told'.map .str)) = true := areW_of (by omega) w
    refine go_does_deal hu hk9 hi.len (gw_of (by omega) w) (Nat.le_refl _) (fun ws' e l' w' hph _ d' st' h' => ?_) (fun z => by rw [hA] at z; exact Bool.noConfusion z) (fun _ hne => absurd ⟨h, hs⟩ hne)
    have e1 : ws' = told' := (str_inj (D.tup.inj e)).symm
    subst e1
    exact q _ _ h'
  | ask => exact go_does_ask hu hk9 hi.len (fun _ _ d' st' h' => q _ _ h') (fun hne => absurd ⟨rfl, hs⟩ hne)
  | clear _ _ h => exact go_does_clear hu hk9 hi.len (fun _ _ d' st' h' => q _ _ h') (fun hne => absurd ⟨h, hs⟩ hne)
end
end LAW

set_option maxRecDepth 100000
set_option autoImplicit false
set_option maxHeartbeats 2000000
set_option linter.all false
set_option pp.maxSteps 3000
set_option pp.deepTerms false
namespace LAW
open PySem EV L2 PyProof.Rows
variable {E : ErP} {Ee : ErS}
local macro_rules | `(tactic| walk_at "gdl") => `(tactic| first
  | with_reducible exact Gd.fitw gd_non (by decide) | with_reducible exact Gd.fitw gd_bl (by decide)
  | ((with_reducible refine Gd.fitw (gd_int ?h) ?c); (case h => omega); (case c => decide))
  | ((with_reducible refine Gd.fit (N := ?N) (n := ?n) (w := ?w) ?h ?a ?b ?c); (case h => assumption); (case a => decide); (case b => decide); (case c => decide))
  | ((with_reducible refine Gd.fitw (gd_str (w := 50) ?h ?hw) ?c); (case h => decide +kernel); (case hw => decide +kernel); (case c => decide)))
local macro_rules | `(tactic| walk_at "gd") => `(tactic| first
  | walk_at "gdl"
  | ((with_reducible refine Gd.tupP ?h ?q); (case h => decide); (case q => walk_at "gds")) | ((with_reducible refine Gd.lstP ?h ?q); (case h => decide); (case q => walk_at "gds")))
local macro_rules | `(tactic| walk_at "gds") => `(tactic| first
  | with_reducible exact Gds.nil
  | ((with_reducible refine Gds.consL ?h1 ?h3 ?h2); (case h1 => walk_at "gdl"); (case h3 => decide); (case h2 => walk_at "gds"))
  | ((with_reducible refine Gds.consH ?h1 ?h3 ?h2); (case h1 => walk_at "gd"); (case h3 => decide); (case h2 => walk_at "gds")))
local macro_rules | `(tactic| walk_at "shw") => `(tactic| ((with_reducible refine go_shw (N := 10 ^ 12) (n := 64) (w := 1000000) ?h (Nat.le_refl _) (Nat.le_refl _) (Nat.le_refl _) ?hq); (case h => walk_at "gd")))
local macro_rules | `(tactic| walk_at "same") => `(tactic| first
  | ((with_reducible refine go_neG ?h ?hq); (case h => walk_at "gd")) | ((with_reducible refine go_eqG ?h ?hq); (case h => walk_at "gd")))
local macro_rules | `(tactic| walk_at "len") => `(tactic| first
  | (simp only [List.length_cons, List.length_nil, Nat.reduceAdd, Nat.reduceLeDiff]; done)
  | (simp only [List.length_cons, List.length_nil, List.length_append, List.length_map]; omega) | omega)
local macro_rules | `(tactic| walk_at "cell") => `(tactic| first
  | assumption
  | ((with_reducible refine get_set (o := ?oo) ?hh); (case hh => walk_at "cell"))
  | exact UrnL.get ‹_› (by repeat' (first | with_reducible exact List.mem_cons_self | with_reducible refine List.mem_cons_of_mem _ ?_)))
local macro_rules | `(tactic| walk_at "lkf") => `(tactic| repeat (first | with_reducible exact lkF_nil | with_reducible exact lkF_hd | with_reducible refine lkF_tl (by decide +kernel) ?_))
local macro_rules | `(tactic| walk_at "tab") => `(tactic| repeat (first | with_reducible exact tab_hd | with_reducible refine tab_tl (by decide +kernel) ?_))
local macro_rules | `(tactic| walk_at "lkd") => `(tactic| repeat (first | with_reducible exact lkd_hd | with_reducible refine lkd_tl (by decide +kernel) ?_))
local macro_rules | `(tactic| walk_at "ndp") => `(tactic| first | with_reducible exact nd_hd | ((with_reducible refine nd_tl (r' := ?r2) ?hd ?hq); (case hd => decide +kernel); (case hq => walk_at "ndp")))
local macro_rules | `(tactic| walk_at "mem") => `(tactic| repeat (first | with_reducible exact List.mem_cons_self | with_reducible refine List.mem_cons_of_mem _ ?_))
local macro_rules | `(tactic| walk_at "evo") => `(tactic| first
  | ((with_reducible refine go_le1000 ?h ?hq); (case h => walk_at "len"))
  | ((with_reducible refine go_isiR (ds := ?ds) ?h ?hq); (case h => walk_at "cell")) | with_reducible refine go_par ?_ | with_reducible refine go_par2 ?_ | with_reducible refine go_vLock ?_ | ((with_reducible refine go_lockR (ds := ?ds) ?h ?hq); (case h => walk_at "cell"))
  | ((with_reducible refine go_addL ?h ?hq); (case h => walk_at "len")) | ((with_reducible refine go_addT ?h ?hq); (case h => walk_at "len"))
  | with_reducible refine go_enumL ?_ | with_reducible refine go_enumT ?_ | with_reducible refine go_zipL ?_ | with_reducible refine go_zipT ?_ | with_reducible refine go_revdL ?_ | with_reducible refine go_revdT ?_
  | ((with_reducible refine go_gTpK ?hl ?hq); (case hl => exact rfl)) | with_reducible refine go_inK ?_
  | with_reducible refine go_par3 ?_ | with_reducible refine go_par3e ?_ | ((with_reducible refine go_ext (ds := ?ds) ?h ?hq); (case h => exact rfl)) | ((with_reducible refine go_ext1 ?h ?hq); (case h => walk_at "len"))
  | with_reducible refine go_vMeth ?_ | ((with_reducible refine go_mlen ?h ?hq); (case h => exact rfl))
  | with_reducible refine lcp_nil ?_ | ((with_reducible refine lcp_consY (bs := ?bs) ?hb ?hq); (case hb => exact rfl)) | ((with_reducible refine lcp_cons (bs := ?bs) ?hb ?hq); (case hb => exact rfl))
  | ((with_reducible refine go_methD (C := ?C) (fs := ?fs) (ps := ?ps) (F := ?F) ?h ?hl ?ht ?hq); (case h => walk_at "cell"); (case hl => walk_at "lkf"); (case ht => walk_at "tab"))
  | ((with_reducible refine go_fld (C := ?C) (fs := ?fs) (d := ?d) ?h ?hm ?hl ?hq); (case h => walk_at "cell"); (case hm => walk_at "mem"); (case hl => walk_at "lkf"))
  | with_reducible refine go_gFld ?_ | with_reducible refine ns_hd ?_ | with_reducible refine ns_tl (by decide +kernel) ?_ | with_reducible refine ns_nil ?_
  | ((with_reducible refine go_setF (C := ?C) (fs := ?fs) ?h ?hm ?hz ?hq); (case h => walk_at "cell"); (case hm => walk_at "mem"); (case hz => walk_at "lt"))
  | ((with_reducible refine go_gTp ?hl ?hq); (case hl => exact rfl)) | with_reducible refine go_gsC ?_ | with_reducible refine go_gsN ?_ | with_reducible refine go_gN ?_
  | with_reducible refine go_fldA ?_
  | ((with_reducible refine go_augF (C := ?C) (fs := ?fs) (i := ?i) ?h ?hm ?hl ?hz ?hq); (case h => walk_at "cell"); (case hm => walk_at "mem"); (case hl => walk_at "lkf"); (case hz => walk_at "lt"))
  | with_reducible refine go_vBm ?_ | ((with_reducible refine go_isLR (ds := ?ds) ?h ?hq); (case h => walk_at "cell"))
  | ((with_reducible refine go_appD (ds := ?ds) ?h ?hz ?hq); (case h => walk_at "cell"); try (case hz => walk_at "lt"))
  | with_reducible refine go_vBd ?_ | ((with_reducible refine go_isDR (kvs := ?kvs) (k := ?k) ?h ?hq); (case h => walk_at "cell"))
  | with_reducible refine go_dnew ?_ | with_reducible refine go_toRefD ?_
  | with_reducible refine go_isN1 ?_ | with_reducible refine go_isN2 ?_ | with_reducible refine go_isN3 ?_ | with_reducible refine go_isN4 ?_ | with_reducible refine go_isN5 ?_ | with_reducible refine go_isN6 ?_
  | with_reducible refine go_isntN1 ?_ | with_reducible refine go_isntN2 ?_ | with_reducible refine go_isntN3 ?_ | with_reducible refine go_isntN4 ?_ | with_reducible refine go_isntN5 ?_ | with_reducible refine go_isntN6 ?_
  | ((with_reducible refine go_lenR (ds := ?ds) ?h ?hq); (case h => walk_at "cell"))
  | ((with_reducible refine go_lenRD (kvs := ?kvs) ?h ?hq); (case h => walk_at "cell"))
  | ((with_reducible refine go_tupR (ds := ?ds) ?h ?hq); (case h => walk_at "cell")) | ((with_reducible refine go_listR (ds := ?ds) ?h ?hq); (case h => walk_at "cell"))
  | ((with_reducible refine go_ixS (t := ?tt) (kvs := ?kvs) (d := ?d) ?h ?hl ?hq); (case h => walk_at "cell"); (case hl => walk_at "lkd"))
  | ((with_reducible refine go_setRS (kvs := ?kvs) (kvs' := ?kv2) ?h ?hz ?he ?hq); (case h => walk_at "cell"); (case hz => walk_at "lt"); (case he => walk_at "ndp"))
  | ((with_reducible refine go_disp ?hq)) | ((with_reducible refine go_ds (kvs := ?kvs) ?l ?e ?hq); (case l => exact rfl); (case e => (simp only [zipS_cons, zipS_nil]; exact rfl)))
  | ((with_reducible refine go_ixR (ds := ?ds) (d := ?d) ?h ?hi ?hq); (case h => walk_at "cell"); (case hi => exact rfl))
  | ((with_reducible refine go_setRL (ds := ?ds) (k := ?k) ?h ?hi ?hq); (case h => walk_at "cell"); (case hi => exact rfl))
  | fail)
local macro_rules | `(tactic| walk_at "lt") => `(tactic| first
  | (simp only [List.length_cons, List.length_nil, Nat.reduceAdd, Nat.reduceLTLE, Nat.reduceLeDiff]; done) | walk_at "len")
local macro_rules | `(tactic| walk_at "ev1b") => `(tactic| first
  | walk_at "ev0"
  | with_reducible refine go_seq ?_ | with_reducible refine go_c ?_ | with_reducible refine go_v2 ?_ | with_reducible refine go_vCons ?_ | with_reducible refine go_vNil ?_ | with_reducible refine go_vA ?_
  | ((with_reducible refine go_name (d := ?d) ?hh ?hq); (case hh => exact rfl))
  | with_reducible refine go_set ?_ | with_reducible refine go_if ?_ | with_reducible refine go_vB ?_ | with_reducible refine go_ret ?_ | with_reducible refine go_bl ?_ | with_reducible refine go_in ?_ | with_reducible refine go_in2 ?_
  | with_reducible refine go_add ?_ | with_reducible refine go_sub ?_ | with_reducible refine go_neg ?_
  | with_reducible refine go_lt ?_ | with_reducible refine go_le ?_ | with_reducible refine go_gt ?_ | with_reducible refine go_ge ?_ | with_reducible refine go_eqI ?_ | with_reducible refine go_neI ?_ | with_reducible refine go_eqS ?_ | with_reducible refine go_neS ?_ | with_reducible refine go_isB ?_ | with_reducible refine go_isntB ?_
  | with_reducible refine go_vNot ?_ | with_reducible refine go_vAnd ?_ | with_reducible refine go_vOr ?_ | with_reducible refine go_vAndV ?_ | with_reducible refine go_vOrV ?_ | with_reducible refine go_vNotV ?_ | with_reducible refine go_vIf ?_ | with_reducible refine go_chain ?_
  | with_reducible refine go_vFrz ?_ | with_reducible refine go_vRef ?_ | with_reducible refine go_vSl ?_ | with_reducible refine go_frz ?_ | with_reducible refine go_frz2 ?_ | with_reducible refine go_toRef ?_
  | ((with_reducible refine go_mkTup ?hn ?hq); (case hn => walk_at "len"))
  | ((with_reducible refine go_mkLst ?hn ?hq); (case hn => walk_at "len"))
  | with_reducible refine go_setS ?_ | with_reducible refine go_asg ?_ | ((with_reducible refine go_pat (bs := ?bs) ?hh ?hq); (case hh => exact rfl)) | with_reducible refine go_subR ?_
  | with_reducible refine go_nil ?_ | with_reducible refine go_retN ?_ | with_reducible refine go_expr ?_ | with_reducible refine go_v1 ?_ | with_reducible refine go_for ?_
  | ((with_reducible refine go_appN (ds := ?ds) ?hh ?hn ?hq); (case hh => exact rfl); try (case hn => (first | (simp only [List.length_cons, List.length_nil, Nat.reduceAdd, Nat.reduceLTLE, Nat.reduceLeDiff]; done) | walk_at "len"))) | ((with_reducible refine go_ixO (ds := ?ds) ?hh ?hq); (case hh => exact rfl)) | ((with_reducible refine go_lenO (ds := ?ds) ?hh ?hq); (case hh => exact rfl))
  | ((with_reducible refine go_frzO (ds := ?ds) ?hh ?hq); (case hh => exact rfl)) | ((with_reducible refine go_frzV (d := ?d) ?hh ?hq); (case hh => exact rfl))
  | with_reducible refine go_seqL ?_ | with_reducible refine go_seqT ?_ | with_reducible refine go_abs ?_ | with_reducible refine go_max2 ?_ | with_reducible refine go_min2 ?_ | with_reducible refine go_intI ?_ | with_reducible refine go_intB ?_
  | with_reducible refine go_lenL ?_ | with_reducible refine go_lenT ?_ | with_reducible refine go_lenC ?_ | with_reducible refine go_listL ?_ | with_reducible refine go_listT ?_ | with_reducible refine go_tupL ?_ | with_reducible refine go_tupT ?_
  | ((with_reducible refine go_isiT (a := ?a) ?hh ?hT ?hb ?hq); (case hh => exact rfl); (case hT => decide); (case hb => decide +kernel)) | ((with_reducible refine go_isiF (a := ?a) ?hh ?hT ?hb ?hq); (case hh => exact rfl); (case hT => decide); (case hb => decide +kernel))
  | ((with_reducible refine go_isi2T (a := ?a) ?hh ?hT ?hb ?hq); (case hh => exact rfl); (case hT => decide); (case hb => decide +kernel)) | ((with_reducible refine go_isi2F (a := ?a) ?hh ?hT ?hb ?hq); (case hh => exact rfl); (case hT => decide); (case hb => decide +kernel))
  | with_reducible refine go_revL ?_ | with_reducible refine go_revT ?_ | with_reducible refine go_noP ?_ | with_reducible refine go_soP ?_ | with_reducible refine go_slice ?_
  | ((with_reducible refine go_ix (d := ?d) ?hh ?hq); (case hh => first | assumption | exact rfl))
  | ((with_reducible refine go_mod ?hn ?hq); try (case hn => first | decide | omega)) | ((with_reducible refine go_fdiv ?hn ?hm ?hq); try (case hn => first | decide | omega); try (case hm => first | decide | assumption | exact lg1 (by omega)))
  | with_reducible refine go_mul9 ?_ | ((with_reducible refine go_mul ?hn ?hq); try (case hn => first | decide | assumption | (exact lg2 (by omega) (by omega)))) | with_reducible refine go_pow8 ?_ | with_reducible refine go_mul9 ?_ | ((with_reducible refine go_pow ?hn ?hm ?hq); try (case hn => decide); try (case hm => first | decide | assumption))
  | with_reducible refine go_fn1 ?_ | with_reducible refine go_fn2 ?_ | with_reducible refine go_fn3 ?_ | with_reducible refine go_fn4 ?_ | with_reducible refine go_fn5 ?_ | with_reducible refine go_fn6 ?_
  | ((with_reducible refine go_addSL ?hn ?hq); (case hn => first | (simp only [List.length_cons, List.length_nil, List.length_append]; omega) | omega))
  | ((with_reducible refine go_kdIx (f := ?f) ?hh ?hq); (case hh => exact rfl)) | with_reducible refine go_kdIn ?_
  | ((with_reducible refine go_callL (y := ?y) (ps := ?ps) (F := ?F) ?hh ?ht ?hq); (case hh => exact rfl); (case ht => repeat (first | with_reducible exact tab_hd | with_reducible refine tab_tl (by decide +kernel) ?_)))
  | ((with_reducible refine go_lenEq ?hh ?hq); (case hh => exact rfl))
  | ((with_reducible refine go_star (ds := ?ds) (bs := ?bs) ?hd ?hb ?hh ?hq); (case hd => exact rfl); (case hb => (simp only [List.length_cons, List.length_nil]; omega)); (case hh => exact rfl))
  | ((with_reducible refine go_lrng2 ?hn ?hq); (case hn => omega)) | ((with_reducible refine go_lrng1 ?hn ?hq); (case hn => omega))
  | ((with_reducible refine go_rep ?h1 ?h2 ?h3 ?hq); (case h1 => simp); (case h2 => omega); (case h3 => (simp only [List.length_cons, List.length_nil]; omega)))
  | with_reducible refine go_slT ?_ | with_reducible refine go_slL ?_ | with_reducible refine go_addCT (by omega) ?_ | with_reducible refine go_addCL (by omega) ?_
  | with_reducible refine go_tt ?_ | with_reducible refine go_ff ?_ | with_reducible refine go_ntt ?_ | with_reducible refine go_nff ?_
  | ((with_reducible refine go_dt ?hp ?hq); (case hp => first | (with_reducible rfl) | omega | decide | decide +kernel)) | ((with_reducible refine go_df ?hp ?hq); (case hp => first | (with_reducible rfl) | omega | decide | decide +kernel)) | with_reducible refine go_d (fun hc => ?_) (fun hc => ?_)
  | ((with_reducible refine go_ndt ?hp ?hq); (case hp => first | (with_reducible rfl) | omega | decide | decide +kernel)) | ((with_reducible refine go_ndf ?hp ?hq); (case hp => first | (with_reducible rfl) | omega | decide | decide +kernel)) | with_reducible refine go_nd (fun hc => ?_) (fun hc => ?_)
  | (with_reducible refine And.intro (fun hc => ?_) (fun hc => ?_))
  | walk_at "ev2")
local macro_rules | `(tactic| walk_at "nm") => `(tactic| ((with_reducible refine go_nm (env' := ?en) ?hh ?hq); (case hh => first | (dsimp only [List.set, bindE, setAll, List.foldl, List.map, List.cons_append, List.nil_append, List.replicate, wipeE]; exact rfl) | exact rfl)))
local macro_rules | `(tactic| walk_at "ev1") => `(tactic| first | walk_at "nm" | walk_at "ev1b")
local macro_rules | `(tactic| walk_at "ev") => `(tactic| repeat' walk_at "ev1")
local macro_rules | `(tactic| walk_at "evs") => `(tactic| ((try walk_at "nm"); repeat' walk_at "ev1b"))

local macro_rules | `(tactic| walk_at "ev2") => `(tactic| first
  | (with_reducible refine draw ‹_› (by omega) (by omega) (by omega) fun r st1 r0 r1 h1 hl => ?_)
  | with_reducible refine go_pick (by omega) (by first | omega | (simp only [List.length_cons, List.length_nil]; omega)) ?_ | with_reducible refine go_pickT (by omega) (by first | omega | (simp only [List.length_cons, List.length_nil]; omega)) ?_
  | with_reducible refine all_mem1 ?_ ?_ | with_reducible exact all_mem0
  | walk_at "evo")

local macro_rules | `(tactic| walk_at "ev0") => `(tactic| first
  | with_reducible refine toRefU ‹_› fun p st1 hu => ?_
  | with_reducible refine toRefDU ‹_› fun p st1 hu => ?_
  | with_reducible refine go_pickW (by omega) (by walk_at "lt") (by decide +kernel) fun w gw => ?_)

theorem nno {p q : Prop} (h : p) (h2 : ¬q) : ¬(¬p ∨ q) := fun z => z.elim (fun z => z h) h2
section
variable {L : List (Nat × SObj)} {B u : Nat} {st : Store} {P : D → Store → Prop} {k c d n : Nat} {t : Int} {now own : Str} {told : List Str} {as : List Int}
theorem go_heard (hu : UrnL ((c, CHF k t now own told d) :: (d, AGC as) :: (n, LST t now own told (agrI k as)) :: L) B st u) (hB : B ≤ 900000) (hk : 1 ≤ k ∧ k ≤ 8) (ht : 0 ≤ t ∧ t ≤ 1000) (hi : InvC k now own told as)
    (q : ∀ now' own' as' st', InvC k now' own' told as' → UrnL ((c, CHF k t now' own' told d) :: (d, AGC as') :: (n, LST t now' own' told (agrI k as')) :: L) (B + 2) st' u → P (.bl true) st') : (F__law_heard_right [.ref u, .ref c, .ref n] st).holds E P := by
  unfold F__law_heard_right
  with_reducible refine go_fn (n := 3) (by simp only [List.length_cons, List.length_nil]) ?_
  unfold B__law_heard_right
  have h12 : (10 : Nat) ^ 12 = 1000000000000 := by decide
  have hlm : (told.map D.str).length = k + 1 := by rw [List.length_map]; exact hi.len
  have hs := hu.any (i := 2) rfl
  walk_at "ev"
  all_goals
    rename_i r1 s1 a0 a1 hu1 l1 r2 s2 b0 b1 hu2 l2
    clear hu hs hu1
    with_reducible refine go_lhearsA hu2.up ⟨hk.1, by omega⟩ hi (by omega) (fun h => ?_) (fun h1 h2 s3 hu3 => ?_)
    · walk_at "ev"
      with_reducible refine go_hearI hu2 ⟨hk.1, by omega⟩ hi (fun h' => ?_) (fun h1' h2' _ _ => absurd h (nno h1' h2'))
      walk_at "ev"
      walk_at "same"
      walk_at "ev"
      exact go_standsI hu2 ⟨hk.1, by omega⟩ hi (by omega) (q _ _ _ _ hi (hu2.le (by omega)))
    · have hu4 := hu3.dn
      walk_at "ev"
      with_reducible refine go_hearI hu4 ⟨hk.1, by omega⟩ hi (fun h' => absurd h' (nno h1 h2)) (fun h1' h2' s5 hu5 => ?_)
      have hi5 := hi.hear (p := 1 + r1) (by omega) h2
      walk_at "ev"
      walk_at "same"
      walk_at "ev"
      exact go_standsI hu5 ⟨hk.1, by omega⟩ hi5 (by omega) (q _ _ _ _ hi5 (hu5.le (by omega)))
theorem go_deed_of (hu : UrnL L B st u) (hB : B ≤ 800000) (hk : 1 ≤ k ∧ k ≤ 8)
    (qd : ∀ (ws : List Str) st', ws.length = k + 1 → (∀ w ∈ ws, w ∈ W3) → UrnL L (B + 20) st' u → P (.tup [.str "deal", .tup (ws.map .str)]) st')
    (qa : ∀ st', UrnL L (B + 20) st' u → P (.tup [.str "ask"]) st')
    (qc : ∀ st', UrnL L (B + 20) st' u → P (.tup [.str "clear"]) st') : (F__law_deed_of [.ref u, .int (k + 1)] st).holds E P := by
  unfold F__law_deed_of
  with_reducible refine go_fn (n := 2) (by simp only [List.length_cons, List.length_nil]) ?_
  unfold B__law_deed_of
  walk_at "ev"
  · rename_i r s1 r0 r1 hu1 l1 hc
    with_reducible refine go__law_words hu1 (by omega) (by omega) fun ws st1 l1 w1 hu2 => ?_
    walk_at "ev"
    exact qd ws _ (by omega) w1 (hu2.le (by omega))
  · rename_i r s1 r0 r1 hu1 l1 hc
    exact qa _ (hu1.le (by omega))
  · rename_i r s1 r0 r1 hu1 l1 hc
    exact qc _ (hu1.le (by omega))
end
theorem law_holds {ns : List Int} (hl : ns.length ≤ 63) : (F_law [.scr ns] []).holds noE fun d _ => d = .bl true := by
  unfold F_law
  refine go_fn rfl ?_
  unfold B_law
  walk_at "ev"
  refine go_rng1 (by split <;> split <;> omega) ?_
  refine rng_loop (fun m env st => ∃ a1 a2 a3 a4 a5 a6 a7 a8, env = [.vl (.scr ns), a1, a2, a3, a4, a5, a6, a7, a8]) ⟨_, _, _, _, _, _, _, _, rfl⟩ ?_ ?_
  · rintro env st ⟨a1, a2, a3, a4, a5, a6, a7, a8, rfl⟩
    walk_at "ev"
    rfl
  · rintro m env st hm ⟨a1, a2, a3, a4, a5, a6, a7, a8, rfl⟩
    have hm5 : m < 5 := by revert hm; split <;> split <;> omega
    clear hm
    rw [Int.zero_add]
    walk_at "ev"
    refine urn (by omega) fun st1 n huz => ?_
    walk_at "ev"
    rename_i r st2 r0 r1 hu2 hl2
    obtain ⟨k, hk⟩ : ∃ k : Nat, 2 + r = (k : Int) + 1 := ⟨(1 + r).toNat, by omega⟩
    rw [hk]
    with_reducible refine go_chief_make hu2 (by omega) fun c d st3 hu3 => ?_
    walk_at "ev"
    with_reducible refine go_lstate hu3 (by omega) fun b st4 hu4 => ?_
    have hu5 : UrnL ((c, CHF k 0 "clear" "free" (List.replicate (k + 1) "free") d) :: (d, AGC (rngI 1 k)) :: (b, LST 0 "clear" "free" (List.replicate (k + 1) "free") (agrI k (rngI 1 k))) :: []) (0 + 1) st4 n := by
      have h := hu4.dn
      rw [agr_full]
      exact h
    clear huz hu2 hu3 hu4
    walk_at "ev"
    with_reducible refine go_standsI hu5 (by omega) InvC.full (by decide) ?_
    walk_at "ev"
    rename_i r2 st6 b0 b1 hu6 hl6
    clear hu5
    with_reducible refine go_rng1 (by omega) ?_
    refine rng_loop (fun j env st => ∃ a6 a7 a8 t now own told d as, env = [.vl (.scr ns), .vl (.int m), .vl (.ref n), .vl (.int (k + 1)), .vl (.ref c), .vl (.ref b), a6, a7, a8] ∧ 0 ≤ t ∧ t ≤ (j : Int) ∧ InvC k now own told as ∧ UrnL ((c, CHF k t now own told d) :: (d, AGC as) :: (b, LST t now own told (agrI k as)) :: []) (10 + 100 * j) st n)
      ⟨_, _, _, 0, _, _, _, _, _, rfl, by omega, by omega, InvC.full, hu6.le (by omega)⟩ ?_ ?_
    · rintro env st ⟨a6, a7, a8, t, now, own, told, d, as, rfl, h⟩
      exact ⟨_, _, _, _, _, _, _, _, rfl⟩
    · rintro j env st hj ⟨a6, a7, a8, t, now, own, told, d, as, rfl, t0, t1, hi, hu7⟩
      have hj3 : j < 60 := by omega
      clear hu6
      have hk8 : 1 ≤ k ∧ k ≤ 8 := by omega
      have hk9 : 1 ≤ k ∧ k ≤ 100 := by omega
      have h12 : (10 : Nat) ^ 12 = 1000000000000 := by decide
      walk_at "ev"
      · rename_i r8 st8 r80 r81 hu8 hl8 hc8
        with_reducible refine go_heard hu8 (by omega) hk8 (by omega) hi fun now' own' as' st9 hi9 hu9 => ?_
        walk_at "ev"
        exact ⟨_, _, _, t, _, _, _, _, _, rfl, by omega, by omega, hi9, hu9.le (by omega)⟩
      · rename_i r8 st8 r80 r81 hu8 hl8 hc8
        clear hu7
        with_reducible refine go_deed_of hu8 (by omega) hk8 (fun ws st9 wl w1 hu9 => ?_) (fun st9 hu9 => ?_) (fun st9 hu9 => ?_)
        · clear hu8
          have gw : Gd 1000 1 1000 (.tup (ws.map .str)) := (Gd.tup (gds_w4 fun x hx => w34 (w1 x hx))).le (Nat.le_refl _) (by omega)
          have hA : areW (k + 1) (.tup (ws.map .str)) = true := areW_of (by omega) w1
          walk_at "ev"
          with_reducible refine go_due_deal hu9.up hk9 hi.len (fun x hx => (agr_mem.mp hx).1) hi.ph gw (Nat.le_refl _) (fun ws' e l' w' hph hs st10 hu10 => ?_) (fun h => by rw [hA] at h; exact Bool.noConfusion h) (fun _ hne st10 hu10 => ?_)
          · have e1 : ws' = ws := (str_inj (D.tup.inj e)).symm
            subst e1
            rw [sil_agr] at hs
            have hu11 := hu10.dn
            walk_at "ev"
            with_reducible refine go_does_deal hu11 hk9 hi.len gw (Nat.le_refl _) (fun ws'' e2 l'' w'' hph' hs' d' st12 hu12 => ?_) (fun h => by rw [hA] at h; exact Bool.noConfusion h) (fun _ hne => absurd ⟨hph, hs⟩ hne)
            have e3 : ws'' = ws' := (str_inj (D.tup.inj e2)).symm
            subst e3
            have hi12 : InvC k "dealt" (ws''.headD "") ws'' [] := InvC.beg l'' (fun x hx => w34 (w'' x hx)) (by decide +kernel) (headD_mem l'' w'')
            walk_at "ev"
            with_reducible refine go_shw gd_none (Nat.le_refl _) (Nat.le_refl _) (Nat.le_refl _) ?_
            walk_at "ev"
            with_reducible refine go_shw gd_none (Nat.le_refl _) (Nat.le_refl _) (Nat.le_refl _) ?_
            walk_at "ev"
            have hu13 : UrnL ((c, CHF k (t + 1) "dealt" (ws''.headD "") ws'' d') :: (d', AGC []) :: (b, LST (t + 1) "dealt" (ws''.headD "") ws'' (agrI k [])) :: []) (10 + 100 * j + 1 + 20) st12 n := by rw [agr_nil]; exact hu12
            with_reducible refine go_standsI hu13 hk9 hi12 (by omega) ?_
            walk_at "ev"
            exact ⟨_, _, _, t + 1, _, _, _, _, _, rfl, by omega, by omega, hi12, hu13.le (by omega)⟩
          · rw [sil_agr] at hne
            have hu11 := hu10.dn
            rw [sil_agr]
            walk_at "ev"
            with_reducible refine go_does_deal hu11 hk9 hi.len gw (Nat.le_refl _) (fun ws'' e2 l'' w'' hph' hs' d' st12 hu12 => absurd ⟨hph', hs'⟩ hne) (fun h => by rw [hA] at h; exact Bool.noConfusion h) (fun _ _ => ?_)
            have gna := gd_na (as := as) hk9.2 hi.ph
            walk_at "ev"
            with_reducible refine go_shw gna (Nat.le_refl _) (Nat.le_refl _) (Nat.le_refl _) ?_
            walk_at "ev"
            with_reducible refine go_shw gna (Nat.le_refl _) (Nat.le_refl _) (Nat.le_refl _) ?_
            walk_at "ev"
            with_reducible refine go_standsI hu11 hk9 hi (by omega) ?_
            walk_at "ev"
            exact ⟨_, _, _, t, _, _, _, _, _, rfl, by omega, by omega, hi, hu11.le (by omega)⟩
        · clear hu8
          walk_at "ev"
          with_reducible refine go_due_ask hu9.up hk9 hi.len (fun x hx => (agr_mem.mp hx).1) hi.ph (fun hph hs st10 hu10 => ?_) (fun hne st10 hu10 => ?_)
          · rw [sil_agr] at hs
            have hu11 := hu10.dn
            walk_at "ev"
            with_reducible refine go_does_ask hu11 hk9 hi.len (fun hph' hs' d' st12 hu12 => ?_) (fun hne => absurd ⟨hph, hs⟩ hne)
            have hi12 : InvC k "asking" own (List.replicate (k + 1) "hold") [] := InvC.beg List.length_replicate (rep_w4 (by decide +kernel) _) (by decide +kernel) hi.ow
            walk_at "ev"
            with_reducible refine go_shw gd_none (Nat.le_refl _) (Nat.le_refl _) (Nat.le_refl _) ?_
            walk_at "ev"
            with_reducible refine go_shw gd_none (Nat.le_refl _) (Nat.le_refl _) (Nat.le_refl _) ?_
            walk_at "ev"
            have hu13 : UrnL ((c, CHF k (t + 1) "asking" own (List.replicate (k + 1) "hold") d') :: (d', AGC []) :: (b, LST (t + 1) "asking" own (List.replicate (k + 1) "hold") (agrI k [])) :: []) (10 + 100 * j + 1 + 20) st12 n := by rw [agr_nil]; exact hu12
            with_reducible refine go_standsI hu13 hk9 hi12 (by omega) ?_
            walk_at "ev"
            exact ⟨_, _, _, t + 1, _, _, _, _, _, rfl, by omega, by omega, hi12, hu13.le (by omega)⟩
          · rw [sil_agr] at hne
            have hu11 := hu10.dn
            rw [sil_agr]
            walk_at "ev"
            with_reducible refine go_does_ask hu11 hk9 hi.len (fun hph' hs' d' st12 hu12 => absurd ⟨hph', hs'⟩ hne) (fun _ => ?_)
            have gna := gd_na (as := as) hk9.2 hi.ph
            walk_at "ev"
            with_reducible refine go_shw gna (Nat.le_refl _) (Nat.le_refl _) (Nat.le_refl _) ?_
            walk_at "ev"
            with_reducible refine go_shw gna (Nat.le_refl _) (Nat.le_refl _) (Nat.le_refl _) ?_
            walk_at "ev"
            with_reducible refine go_standsI hu11 hk9 hi (by omega) ?_
            walk_at "ev"
            exact ⟨_, _, _, t, _, _, _, _, _, rfl, by omega, by omega, hi, hu11.le (by omega)⟩
        · clear hu8
          walk_at "ev"
          with_reducible refine go_due_clear hu9.up hk9 hi.len (fun x hx => (agr_mem.mp hx).1) hi.ph (fun hph hs st10 hu10 => ?_) (fun hne st10 hu10 => ?_)
          · rw [sil_agr] at hs
            have hu11 := hu10.dn
            walk_at "ev"
            with_reducible refine go_does_clear hu11 hk9 hi.len (fun hph' hs' d' st12 hu12 => ?_) (fun hne => absurd ⟨hph, hs⟩ hne)
            have hi12 : InvC k "clearing" "free" (List.replicate (k + 1) "free") [] := InvC.beg List.length_replicate (rep_w4 (by decide +kernel) _) (by decide +kernel) (by decide +kernel)
            walk_at "ev"
            with_reducible refine go_shw gd_none (Nat.le_refl _) (Nat.le_refl _) (Nat.le_refl _) ?_
            walk_at "ev"
            with_reducible refine go_shw gd_none (Nat.le_refl _) (Nat.le_refl _) (Nat.le_refl _) ?_
            walk_at "ev"
            have hu13 : UrnL ((c, CHF k (t + 1) "clearing" "free" (List.replicate (k + 1) "free") d') :: (d', AGC []) :: (b, LST (t + 1) "clearing" "free" (List.replicate (k + 1) "free") (agrI k [])) :: []) (10 + 100 * j + 1 + 20) st12 n := by rw [agr_nil]; exact hu12
            with_reducible refine go_standsI hu13 hk9 hi12 (by omega) ?_
            walk_at "ev"
            exact ⟨_, _, _, t + 1, _, _, _, _, _, rfl, by omega, by omega, hi12, hu13.le (by omega)⟩
          · rw [sil_agr] at hne
            have hu11 := hu10.dn
            rw [sil_agr]
            walk_at "ev"
            with_reducible refine go_does_clear hu11 hk9 hi.len (fun hph' hs' d' st12 hu12 => absurd ⟨hph', hs'⟩ hne) (fun _ => ?_)
            have gna := gd_na (as := as) hk9.2 hi.ph
            walk_at "ev"
            with_reducible refine go_shw gna (Nat.le_refl _) (Nat.le_refl _) (Nat.le_refl _) ?_
            walk_at "ev"
            with_reducible refine go_shw gna (Nat.le_refl _) (Nat.le_refl _) (Nat.le_refl _) ?_
            walk_at "ev"
            with_reducible refine go_standsI hu11 hk9 hi (by omega) ?_
            walk_at "ev"
            exact ⟨_, _, _, t, _, _, _, _, _, rfl, by omega, by omega, hi, hu11.le (by omega)⟩
theorem law_true : ∀ ns : List Int, ns.length ≤ 63 → ∃ st, F_law [.scr ns] [] = .ok (.bl true) st := fun ns h => by
  obtain ⟨d, st, e, rfl⟩ := Res.holds_ex (law_holds h)
  exact ⟨st, e⟩
end LAW

set_option Elab.async false
set_option maxRecDepth 100000
open PySem PySem.W PyProof.Rows
theorem LAW.xfB_of {K : PySem.W.Frag} {C : Addr} (h1 : PySem.W.findIn K (.ref C) "__getattribute__" = some (some (.builtin "BaseException.__getattribute__")))
    (h2 : PySem.W.findIn K (.ref C) "__getattr__" = some none) (h3 : PySem.W.subIn K (.ref C) (.type "BaseException") = some true) (h4 : PySem.W.hasDictIn K C = true) : L2.xfB K C = true := by
  unfold L2.xfB
  rw [h1, h2, h3, h4, decide_eq_true rfl, decide_eq_true rfl, decide_eq_true rfl]
  rfl
set_option maxHeartbeats 0 in
theorem PySem.Challenge.cw_climborsink_k45_phases_of_a_chief_holds : PySem.Challenge.rw_climborsink_k45_phases_of_a_chief.Holds := by
  w_on; o_law; k_head; (case hw => w_witness2)
  k_fill
  refine EV.walkG (l := PySem.Challenge.rw_climborsink_k45_phases_of_a_chief) (k := 6) (x := "_law_script") (F0 := LAW.F_law) rfl (by decide) rfl ⟨⟨rfl, by decide, by decide⟩, rfl⟩ (fun w h Y => PySem.W.kIn_of Y) ?F LAW.law_true
  case F =>
    intro w mg h KX G base _ _
    refine LAW.all_ok ?_
    refine' LAW.tops_mk KX G ?aC_Chief ?pg_Chief ?hd_Chief ?po_Chief ?sa_Chief ?mk_Chief ?kc_Chief ?aC_NoWords ?xb_NoWords ?aC_NotAgreed ?xb_NotAgreed ?xi_NoWords ?xo_NoWords ?xs_NoWords ?xy_NoWords ?xk_NoWords ?xn_NoWords_told ?ax_NoWords ?tx_NoWords ?lx_NoWords ?cx_NoWords ?kx_NoWords ?xi_NotAgreed ?xo_NotAgreed ?xs_NotAgreed ?xy_NotAgreed ?xk_NotAgreed ?xn_NotAgreed_now ?xn_NotAgreed_missing ?ax_NotAgreed ?tx_NotAgreed ?lx_NotAgreed ?cx_NotAgreed ?kx_NotAgreed ?z0 ?z1 ?z2 ?z3 ?z4 ?z5 ?z6 ?z7 ?z8 ?z9 ?z10 ?z11 ?z12 ?z14 ?z15 ?z16 ?z17 ?z18 ?z19 ?y19 ?x19 ?w19 ?u19_0 ?u19_1 ?nf_Chief_at_turn ?nf_Chief_have_agreed ?nf_Chief_now ?nf_Chief_own ?nf_Chief_places ?nf_Chief_told ?z27 ?y27 ?xm_NotAgreed_NoWords ?xm_NoWords_NoWords ?xm_NotAgreed_NotAgreed ?xm_NoWords_NotAgreed ?a0 ?l0 ?c0 ?k0 ?a1 ?l1 ?c1 ?k1 ?a2 ?l2 ?c2 ?k2 ?a3 ?l3 ?c3 ?k3 ?a4 ?l4 ?c4 ?k4 ?a5 ?l5 ?c5 ?k5 ?a6 ?l6 ?c6 ?k6 ?a7 ?l7 ?c7 ?k7 ?a8 ?l8 ?c8 ?k8 ?a9 ?l9 ?c9 ?k9 ?a10 ?l10 ?c10 ?k10 ?a11 ?l11 ?c11 ?k11 ?a12 ?i12 ?l12 ?c12 ?k12 ?a13 ?i13 ?l13 ?c13 ?k13 ?a14 ?i14 ?l14 ?c14 ?k14 ?a15 ?i15 ?l15 ?c15 ?k15 ?a16 ?i16 ?l16 ?c16 ?k16 ?a17 ?i17 ?l17 ?c17 ?k17 ?a18 ?l18 ?c18 ?k18 ?a19 ?i19 ?l19 ?c19 ?k19 ?a20 ?i20 ?l20 ?c20 ?k20 ?a21 ?i21 ?l21 ?c21 ?k21 ?a22 ?i22 ?l22 ?c22 ?k22 ?a23 ?i23 ?l23 ?c23 ?k23 ?a24 ?l24 ?c24 ?k24 ?a25 ?l25 ?c25 ?k25 ?a26 ?i26 ?l26 ?c26 ?k26 ?a27 ?l27 ?c27 ?k27 ?a28 ?i28 ?l28 ?c28 ?k28 ?a29 ?l29 ?c29 ?k29
    (case aC_Chief => k_is); (case pg_Chief => k_is); (case hd_Chief => k_is); (case po_Chief => k_is); (case sa_Chief => k_is); (case mk_Chief => k_is)
    (case kc_Chief => k_is); (case aC_NoWords => k_is); (case xb_NoWords => exact LAW.xfB_of (by k_is) (by k_is) (by k_is) (by k_is)); (case aC_NotAgreed => k_is); (case xb_NotAgreed => exact LAW.xfB_of (by k_is) (by k_is) (by k_is) (by k_is)); (case xi_NoWords => kx_is)
    (case xo_NoWords => kx_is); (case xs_NoWords => k_is); (case xy_NoWords => k_is); (case xk_NoWords => k_is); (case xn_NoWords_told => k_is); (case ax_NoWords => k_is)
    (case tx_NoWords => k_is); (case lx_NoWords => k_is); (case cx_NoWords => k_is); (case kx_NoWords => k_is); (case xi_NotAgreed => kx_is); (case xo_NotAgreed => kx_is)
    (case xs_NotAgreed => k_is); (case xy_NotAgreed => k_is); (case xk_NotAgreed => k_is); (case xn_NotAgreed_now => k_is); (case xn_NotAgreed_missing => k_is); (case ax_NotAgreed => k_is)
    (case tx_NotAgreed => k_is); (case lx_NotAgreed => k_is); (case cx_NotAgreed => k_is); (case kx_NotAgreed => k_is); (case z0 => k_is); (case z1 => k_is)
    (case z2 => k_is); (case z3 => k_is); (case z4 => k_is); (case z5 => k_is); (case z6 => k_is); (case z7 => k_is)
    (case z8 => k_is); (case z9 => k_is); (case z10 => k_is); (case z11 => k_is); (case z12 => k_is); (case z14 => k_is)
    (case z15 => k_is); (case z16 => k_is); (case z17 => k_is); (case z18 => k_is); (case z19 => k_is); (case y19 => k_is)
    (case x19 => exact ⟨⟨_, _, rfl, rfl⟩, ⟨_, _, rfl, rfl⟩, trivial⟩); (case w19 => decide); (case u19_0 => k_is); (case u19_1 => k_is); (case nf_Chief_at_turn => k_is); (case nf_Chief_have_agreed => k_is)
    (case nf_Chief_now => k_is); (case nf_Chief_own => k_is); (case nf_Chief_places => k_is); (case nf_Chief_told => k_is); (case z27 => k_is); (case y27 => k_is)
    (case xm_NotAgreed_NoWords => kts_exm); (case xm_NoWords_NoWords => kts_exm); (case xm_NotAgreed_NotAgreed => kts_exm); (case xm_NoWords_NotAgreed => kts_exm); (case a0 => k_is); (case l0 => k_is)
    (case c0 => k_is); (case k0 => k_is); (case a1 => k_is); (case l1 => k_is); (case c1 => k_is); (case k1 => k_is)
    (case a2 => k_is); (case l2 => k_is); (case c2 => k_is); (case k2 => k_is); (case a3 => k_is); (case l3 => k_is)
    (case c3 => k_is); (case k3 => k_is); (case a4 => k_is); (case l4 => k_is); (case c4 => k_is); (case k4 => k_is)
    (case a5 => k_is); (case l5 => k_is); (case c5 => k_is); (case k5 => k_is); (case a6 => k_is); (case l6 => k_is)
    (case c6 => k_is); (case k6 => k_is); (case a7 => k_is); (case l7 => k_is); (case c7 => k_is); (case k7 => k_is)
    (case a8 => k_is); (case l8 => k_is); (case c8 => k_is); (case k8 => k_is); (case a9 => k_is); (case l9 => k_is)
    (case c9 => k_is); (case k9 => k_is); (case a10 => k_is); (case l10 => k_is); (case c10 => k_is); (case k10 => k_is)
    (case a11 => k_is); (case l11 => k_is); (case c11 => k_is); (case k11 => k_is); (case a12 => k_is); (case i12 => k_is)
    (case l12 => k_is); (case c12 => k_is); (case k12 => k_is); (case a13 => k_is); (case i13 => k_is); (case l13 => k_is)
    (case c13 => k_is); (case k13 => k_is); (case a14 => k_is); (case i14 => k_is); (case l14 => k_is); (case c14 => k_is)
    (case k14 => k_is); (case a15 => k_is); (case i15 => k_is); (case l15 => k_is); (case c15 => k_is); (case k15 => k_is)
    (case a16 => k_is); (case i16 => k_is); (case l16 => k_is); (case c16 => k_is); (case k16 => k_is); (case a17 => k_is)
    (case i17 => k_is); (case l17 => k_is); (case c17 => k_is); (case k17 => k_is); (case a18 => k_is); (case l18 => k_is)
    (case c18 => k_is); (case k18 => k_is); (case a19 => k_is); (case i19 => k_is); (case l19 => k_is); (case c19 => k_is)
    (case k19 => k_is); (case a20 => k_is); (case i20 => k_is); (case l20 => k_is); (case c20 => k_is); (case k20 => k_is)
    (case a21 => k_is); (case i21 => k_is); (case l21 => k_is); (case c21 => k_is); (case k21 => k_is); (case a22 => k_is)
    (case i22 => k_is); (case l22 => k_is); (case c22 => k_is); (case k22 => k_is); (case a23 => k_is); (case i23 => k_is)
    (case l23 => k_is); (case c23 => k_is); (case k23 => k_is); (case a24 => k_is); (case l24 => k_is); (case c24 => k_is)
    (case k24 => k_is); (case a25 => k_is); (case l25 => k_is); (case c25 => k_is); (case k25 => k_is); (case a26 => k_is)
    (case i26 => k_is); (case l26 => k_is); (case c26 => k_is); (case k26 => k_is); (case a27 => k_is); (case l27 => k_is)
    (case c27 => k_is); (case k27 => k_is); (case a28 => k_is); (case i28 => k_is); (case l28 => k_is); (case c28 => k_is)
    (case k28 => k_is); (case a29 => k_is); (case l29 => k_is); (case c29 => k_is); (case k29 => k_is)

