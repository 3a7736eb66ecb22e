import PyProof.Rows.All
import Wide.All
import OpenK.AllK
import Wide.FinOn
import HandS.ForMost
import HandS.ForExc
import HandS.IsInst
import HandS.NoneIn
import HandS.StrMore
import HandS.Zip
import HandS.CallSlots
import HandS.HeadHook2
import HandS.TupAny
import HandS.Deep
import HandS.Exc
import HandS.ExcOwn
import HandS.WordsExc
import HandS.Defaults
import HandS.Strs
import HandS.More
import HandS.Dict
import HandS.Wide
import HandS.Text
import KE.KStateDown
import HandS.Base
import HandS.Call
import HandS.Ends
import HandS.Words
import HandS.Head0
import HandS.Head1
import HandS.Head2
import HandS.HeadEnd
import HandS.HeadHook1
import PySem.Challenge.RW_shapecourt_k82_values_written_and_read
set_option Elab.async false
set_option linter.all false
set_option autoImplicit false
set_option maxRecDepth 100000
set_option maxHeartbeats 4000000
namespace Sc
open PySem PySem.Spec PyProof.Rows L2

/-! ### data -/
inductive D where
  | non | bl (b : Bool) | int (i : Int) | str (x : Str)
  | tup (ds : List D) | lst (ds : List D)
  | dic (ks : List Str) (ds : List D)
  | obj (C : Str) (ks : List Str) (ds : List D)
  | scr (ns : List Int)
instance : Inhabited D := ⟨.non⟩
/-- colours of tracked addresses: frozen; owned by a slot; lent to the def at a parameter; any other -/
inductive Col where
  | frz | own (i : Nat) | io (i : Nat) | oth | lent (i : Nat)
  deriving DecidableEq
abbrev CM := Addr → Col

/-- a tuple of the written part -/
def KT (K : PySem.W.Frag) (a : Addr) (xs : List V) : Prop :=
  ∃ (o : Obj) (its : Array Value) (n : Nat), K.lookup a = some o ∧ o.cls = .type "tuple" ∧ o.data = .seq its n ∧ its.size ≤ sizeLine ∧ Vals xs its.toList
/-- a list of the written part -/
def KL (K : PySem.W.Frag) (a : Addr) (xs : List V) : Prop :=
  ∃ (o : Obj) (its : Array Value) (n : Nat), K.lookup a = some o ∧ o.cls = .type "list" ∧ o.dict = none ∧ o.data = .seq its n ∧ its.size ≤ sizeLine ∧ Vals xs its.toList
mutual
inductive Fz (K : PySem.W.Frag) (c : CM) (H : Hp) : V → D → Prop
  | non : Fz K c H .non .non
  | bl (b : Bool) : Fz K c H (.bl b) (.bl b)
  | int (i : Int) : Fz K c H (.int i) (.int i)
  | str (x : Str) : Fz K c H (.str x) (.str x)
  | tup {a : Addr} {xs : List V} {ds : List D} : c a = .frz → H a = some (.tup xs) → FzA K c H xs ds → Fz K c H (.ref a) (.tup ds)
  | ktup {a : Addr} {xs : List V} {ds : List D} : KT K a xs → FzA K c H xs ds → Fz K c H (.ref a) (.tup ds)
  | lst {a : Addr} {xs : List V} {ds : List D} : c a = .frz → H a = some (.lst xs) → FzA K c H xs ds → Fz K c H (.ref a) (.lst ds)
  | scr {a : Addr} {ns : List Int} : c a = .frz → Rd H a (.lst (ns.map V.int)) → Fz K c H (.ref a) (.scr ns)
  | kscr {a : Addr} {ns : List Int} : KL K a (ns.map V.int) → Fz K c H (.ref a) (.scr ns)
  | dic {a : Addr} {kvs : List (Key × V)} {ks : List Str} {vs : List V} {ds : List D} : c a = .frz → H a = some (.dK kvs) → kvs.map (·.1) = ks.map Sum.inr → kvs.map (·.2) = vs → FzA K c H vs ds → Fz K c H (.ref a) (.dic ks ds)
  | obj {a dx : Addr} {C : Str} {fs : List (Str × V)} {ks : List Str} {vs : List V} {ds : List D} : c a = .frz → H a = some (.ins (He.ga K C) dx fs) → fs.map (·.1) = ks → fs.map (·.2) = vs → FzA K c H vs ds → Fz K c H (.ref a) (.obj C ks ds)
inductive FzA (K : PySem.W.Frag) (c : CM) (H : Hp) : List V → List D → Prop
  | nil : FzA K c H [] []
  | cons {v : V} {d : D} {vs : List V} {ds : List D} : Fz K c H v d → FzA K c H vs ds → FzA K c H (v :: vs) (d :: ds)
end
/-- all that is frozen stays -/
def Frz (c : CM) (H : Hp) (c' : CM) (H' : Hp) : Prop := ∀ a, c a = .frz → c' a = .frz ∧ (H a ≠ none → H' a = H a)
section
variable {K : PySem.W.Frag} {c c' c2 : CM} {H H' H2 : Hp}
mutual
theorem Fz.mono (h : Frz c H c' H') : ∀ {v : V} {d : D}, Fz K c H v d → Fz K c' H' v d
  | _, _, .non => .non
  | _, _, .bl b => .bl b
  | _, _, .int i => .int i
  | _, _, .str x => .str x
  | _, _, .tup e f g => .tup (h _ e).1 (by rw [(h _ e).2 (by rw [f]; simp), f]) (FzA.mono h g)
  | _, _, .ktup f g => .ktup f (FzA.mono h g)
  | _, _, .lst e f g => .lst (h _ e).1 (by rw [(h _ e).2 (by rw [f]; simp), f]) (FzA.mono h g)
  | _, _, .scr e f => .scr (h _ e).1 (by
      rcases f with f | ⟨o, f⟩
      · exact .inl (by rw [(h _ e).2 (by rw [f]; simp), f])
      · exact .inr ⟨o, by rw [(h _ e).2 (by rw [f]; simp), f]⟩)
  | _, _, .kscr f => .kscr f
  | _, _, .dic e f p q g => .dic (h _ e).1 (by rw [(h _ e).2 (by rw [f]; simp), f]) p q (FzA.mono h g)
  | _, _, .obj e f p q g => .obj (h _ e).1 (by rw [(h _ e).2 (by rw [f]; simp), f]) p q (FzA.mono h g)
theorem FzA.mono (h : Frz c H c' H') : ∀ {vs : List V} {ds : List D}, FzA K c H vs ds → FzA K c' H' vs ds
  | _, _, .nil => .nil
  | _, _, .cons a b => .cons (Fz.mono h a) (FzA.mono h b)
end
theorem FzA.length : ∀ {vs : List V} {ds : List D}, FzA K c H vs ds → vs.length = ds.length
  | _, _, .nil => rfl
  | _, _, .cons _ b => congrArg (· + 1) (FzA.length b)
theorem FzA.get : ∀ {vs : List V} {ds : List D} {i : Nat} {v : V}, FzA K c H vs ds → vs[i]? = some v → ∃ d, ds[i]? = some d ∧ Fz K c H v d
  | _, _, i, v, .nil, h => by simp at h
  | _, _, 0, v, .cons a _, h => by simp at h; subst h; exact ⟨_, rfl, a⟩
  | _, _, i + 1, v, .cons _ b, h => by simp at h; obtain ⟨d, e, f⟩ := FzA.get b h; exact ⟨d, by simpa using e, f⟩
theorem FzA.getD : ∀ {vs : List V} {ds : List D} {i : Nat} {d : D}, FzA K c H vs ds → ds[i]? = some d → ∃ v, vs[i]? = some v ∧ Fz K c H v d
  | _, _, i, v, .nil, h => by simp at h
  | _, _, 0, v, .cons a _, h => by simp at h; subst h; exact ⟨_, rfl, a⟩
  | _, _, i + 1, v, .cons _ b, h => by simp at h; obtain ⟨d, e, f⟩ := FzA.getD b h; exact ⟨d, by simpa using e, f⟩
theorem FzA.append : ∀ {vs ws : List V} {ds es : List D}, FzA K c H vs ds → FzA K c H ws es → FzA K c H (vs ++ ws) (ds ++ es)
  | _, _, _, _, .nil, h => h
  | _, _, _, _, .cons a b, h => .cons a (FzA.append b h)
theorem FzA.take : ∀ {vs : List V} {ds : List D} (n : Nat), FzA K c H vs ds → FzA K c H (vs.take n) (ds.take n)
  | _, _, 0, _ => by simpa using FzA.nil
  | _, _, n + 1, .nil => by simpa using FzA.nil
  | _, _, n + 1, .cons a b => by simpa using FzA.cons a (FzA.take n b)
theorem FzA.drop : ∀ {vs : List V} {ds : List D} (n : Nat), FzA K c H vs ds → FzA K c H (vs.drop n) (ds.drop n)
  | _, _, 0, h => by simpa using h
  | _, _, n + 1, .nil => by simpa using FzA.nil
  | _, _, n + 1, .cons a b => by simpa using FzA.drop n b
theorem FzA.set {v : V} {d : D} (r : Fz K c H v d) : ∀ {vs : List V} {ds : List D} (n : Nat), FzA K c H vs ds → FzA K c H (vs.set n v) (ds.set n d)
  | _, _, n, .nil => by simpa using FzA.nil
  | _, _, 0, .cons a b => by simpa using FzA.cons r b
  | _, _, n + 1, .cons a b => by simpa using FzA.cons a (FzA.set r n b)
theorem FzA.eraseIdx : ∀ {vs : List V} {ds : List D} (n : Nat), FzA K c H vs ds → FzA K c H (vs.eraseIdx n) (ds.eraseIdx n)
  | _, _, n, .nil => by simpa using FzA.nil
  | _, _, 0, .cons a b => by simpa using b
  | _, _, n + 1, .cons a b => by simpa using FzA.cons a (FzA.eraseIdx n b)
theorem FzA.dropLast {vs : List V} {ds : List D} (h : FzA K c H vs ds) : FzA K c H vs.dropLast ds.dropLast := by
  rw [List.dropLast_eq_take, List.dropLast_eq_take, h.length]; exact h.take _
theorem Frz.refl : Frz c H c H := fun _ h => ⟨h, fun _ => rfl⟩
/-- what the expression or statement leaves as it was -/
structure Step (c : CM) (H : Hp) (c' : CM) (H' : Hp) : Prop where
  at_ : ∀ a, H a ≠ none → H' a ≠ none ∧ (c a = .frz → c' a = .frz ∧ H' a = H a) ∧ (c a = .oth → c' a = .oth ∧ H' a = H a) ∧ (∀ j, c a = .io j → c' a = .io j)
theorem Step.refl : Step c H c H := ⟨fun _ h => ⟨h, fun e => ⟨e, rfl⟩, fun e => ⟨e, rfl⟩, fun _ e => e⟩⟩
theorem Step.trans (x : Step c H c' H') (y : Step c' H' c2 H2) : Step c H c2 H2 := ⟨fun a h => by
  obtain ⟨h1, f1, o1, i1⟩ := x.at_ a h
  obtain ⟨h2, f2, o2, i2⟩ := y.at_ a h1
  exact ⟨h2, fun e => ⟨(f2 (f1 e).1).1, by rw [(f2 (f1 e).1).2, (f1 e).2]⟩, fun e => ⟨(o2 (o1 e).1).1, by rw [(o2 (o1 e).1).2, (o1 e).2]⟩, fun j e => i2 j (i1 j e)⟩⟩
theorem Step.frz (x : Step c H c' H') (t : ∀ a, c a = .frz → H a ≠ none) : Frz c H c' H' := fun a e => ⟨((x.at_ a (t a e)).2.1 e).1, fun h => ((x.at_ a h).2.1 e).2⟩
/-- only new things -/
def Grow (c : CM) (H : Hp) (c' : CM) (H' : Hp) : Prop := ∀ a, H a ≠ none → c' a = c a ∧ H' a = H a
theorem Grow.refl : Grow c H c H := fun _ _ => ⟨rfl, rfl⟩
theorem Grow.trans (x : Grow c H c' H') (y : Grow c' H' c2 H2) : Grow c H c2 H2 := fun a h => by
  obtain ⟨a1, a2⟩ := x a h
  obtain ⟨b1, b2⟩ := y a (by rw [a2]; exact h)
  exact ⟨b1.trans a1, b2.trans a2⟩
theorem Grow.step (x : Grow c H c' H') : Step c H c' H' := ⟨fun a h => by
  obtain ⟨e, f⟩ := x a h
  exact ⟨by rw [f]; exact h, fun q => ⟨e.trans q, f⟩, fun q => ⟨e.trans q, f⟩, fun _ q => e.trans q⟩⟩
def cset (c : CM) (p : Addr) (k : Col) : CM := fun a => if a = p then k else c a
theorem cset_same {p : Addr} {k : Col} : cset c p k p = k := by simp [cset]
theorem cset_ne {p a : Addr} {k : Col} (h : a ≠ p) : cset c p k a = c a := by simp [cset, h]
theorem Grow.new {p : Addr} {k : Col} {o : HO} (h : H p = none) : Grow c H (cset c p k) (upd H p o) := fun a ha => by
  have : a ≠ p := fun e => ha (by rw [e]; exact h)
  exact ⟨cset_ne this, upd_ne this⟩
theorem Step.recol {p : Addr} {k : Col} (h : H p ≠ none → (c p = k ∨ ∃ i, c p = .own i)) : Step c H (cset c p k) H := ⟨fun a ha => by
  by_cases e : a = p
  · subst e
    rw [cset_same]
    rcases h ha with q | ⟨i, q⟩
    · rw [← q]; exact ⟨ha, fun e => ⟨e, rfl⟩, fun e => ⟨e, rfl⟩, fun _ e => e⟩
    · rw [q]; exact ⟨ha, (fun e => by cases e), (fun e => by cases e), (fun _ e => by cases e)⟩
  · rw [cset_ne e]; exact ⟨ha, fun e => ⟨e, rfl⟩, fun e => ⟨e, rfl⟩, fun _ e => e⟩⟩
end

/-! ### owned things, slots -/
inductive O where
  | lst (ds : List D)
  | dic (ks : List Str) (ds : List D)
  | obj (C : Str) (ks : List Str) (ds : List D)
instance : Inhabited O := ⟨.lst []⟩
def O.toD : O → D
  | .lst ds => .lst ds
  | .dic ks ds => .dic ks ds
  | .obj C ks ds => .obj C ks ds
def OAt (K : PySem.W.Frag) (c : CM) (H : Hp) (a : Addr) : O → Prop
  | .lst ds => ∃ xs, H a = some (.lst xs) ∧ FzA K c H xs ds
  | .dic ks ds => ∃ kvs, H a = some (.dK kvs) ∧ kvs.map (·.1) = ks.map Sum.inr ∧ FzA K c H (kvs.map (·.2)) ds
  | .obj C ks ds => ∃ dx fs, H a = some (.ins (He.ga K C) dx fs) ∧ fs.map (·.1) = ks ∧ FzA K c H (fs.map (·.2)) ds
section
variable {K : PySem.W.Frag} {c c' c2 : CM} {H H' H2 : Hp} {a : Addr} {o : O}
theorem OAt.some (h : OAt K c H a o) : H a ≠ none := by
  cases o with
  | lst ds => obtain ⟨xs, h, g⟩ := h; rw [h]; simp
  | dic ks ds => obtain ⟨xs, h, q, g⟩ := h; rw [h]; simp
  | obj C ks ds => obtain ⟨dx, xs, h, q, g⟩ := h; rw [h]; simp
theorem OAt.mono (f : Frz c H c' H') (e : H' a = H a) (h : OAt K c H a o) : OAt K c' H' a o := by
  cases o with
  | lst ds => obtain ⟨xs, h, g⟩ := h; exact ⟨xs, e.trans h, g.mono f⟩
  | dic ks ds => obtain ⟨xs, h, q, g⟩ := h; exact ⟨xs, e.trans h, q, g.mono f⟩
  | obj C ks ds => obtain ⟨dx, xs, h, q, g⟩ := h; exact ⟨dx, xs, e.trans h, q, g.mono f⟩
/-- what is owned, frozen -/
theorem OAt.freeze (h : OAt K c H a o) (e : c a = .frz) : Fz K c H (.ref a) o.toD := by
  cases o with
  | lst ds => obtain ⟨xs, h, g⟩ := h; exact .lst e h g
  | dic ks ds => obtain ⟨xs, h, q, g⟩ := h; exact .dic e h q rfl g
  | obj C ks ds => obtain ⟨dx, xs, h, q, g⟩ := h; exact .obj e h q rfl g
end
inductive Sl where
  | un | fz (d : D) | own (o : O) | io (o : O)
instance : Inhabited Sl := ⟨.un⟩
abbrev Ev := List Sl
def RepS (K : PySem.W.Frag) (c : CM) (H : Hp) (i : Nat) : Sl → Option V → Prop
  | .un, _ => True
  | .fz d, w => ∃ v, w = some v ∧ Fz K c H v d
  | .own o, w => ∃ a, w = some (.ref a) ∧ c a = .own i ∧ OAt K c H a o
  | .io o, w => ∃ a, w = some (.ref a) ∧ c a = .io i ∧ OAt K c H a o
/-- the heap at the def's entry, the addresses lent to it -/
structure Bs where
  hp : Hp
  io : Nat → Option Addr
/-- B: the heap at the def's entry -/
structure Rep (K : PySem.W.Frag) (B : Bs) (c : CM) (σ : L2.St) (H : Hp) (e : Ev) : Prop where
  unt : ∀ a, H a = none → c a = .oth
  keep : ∀ a, B.hp a ≠ none → H a ≠ none
  new : ∀ a i, c a = .own i → B.hp a = none
  io : ∀ a i, c a = .io i → B.io i = some a
  len : σ.length = e.length
  slot : ∀ i s, e[i]? = some s → ∃ w, σ[i]? = some w ∧ RepS K c H i s w
section
variable {K : PySem.W.Frag} {B : Bs} {c c' c2 : CM} {H H' H2 : Hp} {σ : L2.St} {e : Ev} {i : Nat} {s : Sl} {w : Option V}
theorem RepS.mono (f : Frz c H c' H') (k : ∀ a, H a ≠ none → (c a = .own i ∨ c a = .io i) → c' a = c a ∧ H' a = H a) (h : RepS K c H i s w) : RepS K c' H' i s w := by
  cases s with
  | un => trivial
  | fz d => obtain ⟨v, h, g⟩ := h; exact ⟨v, h, g.mono f⟩
  | own o => obtain ⟨a, h, q, g⟩ := h; obtain ⟨k1, k2⟩ := k a g.some (.inl q); exact ⟨a, h, k1.trans q, g.mono f k2⟩
  | io o => obtain ⟨a, h, q, g⟩ := h; obtain ⟨k1, k2⟩ := k a g.some (.inr q); exact ⟨a, h, k1.trans q, g.mono f k2⟩
theorem Rep.trk (R : Rep K B c σ H e) : ∀ a, c a = .frz → H a ≠ none := fun a h q => by rw [R.unt a q] at h; cases h
/-- only new things, rightly coloured -/
structure Gr (c : CM) (H : Hp) (c' : CM) (H' : Hp) : Prop where
  gr : Grow c H c' H'
  unt : ∀ a, H' a = none → c' a = .oth
  own : ∀ a, H a = none → c' a = .frz ∨ c' a = .oth
theorem Gr.new {p : Addr} {k : Col} {o : HO} (u : ∀ a, H a = none → c a = .oth) (h : H p = none) (hk : k = .frz ∨ k = .oth) : Gr c H (cset c p k) (upd H p o) where
  gr := Grow.new h
  unt a q := by
    by_cases z : a = p
    · subst z; rw [upd_same] at q; cases q
    · rw [upd_ne z] at q; rw [cset_ne z]; exact u a q
  own a q := by
    by_cases z : a = p
    · subst z; rw [cset_same]; exact hk
    · rw [cset_ne z, u a q]; simp
theorem Gr.refl (u : ∀ a, H a = none → c a = .oth) : Gr c H c H := ⟨Grow.refl, u, fun a q => by rw [u a q]; simp⟩
theorem Gr.step (g : Gr c H c' H') : Step c H c' H' := g.gr.step
theorem Rep.grow (R : Rep K B c σ H e) (G : Gr c H c' H') : Rep K B c' σ H' e := by
 have g := G.gr
 have o := G.own
 exact {
  unt := G.unt
  keep := fun a h => by rw [(g a (R.keep a h)).2]; exact R.keep a h
  new := fun a i h => by
    by_cases q : H a = none
    · rcases o a q with z | z <;> (rw [z] at h; cases h)
    · exact R.new a i ((g a q).1 ▸ h)
  io := fun a i h => by
    by_cases q : H a = none
    · rcases o a q with z | z <;> (rw [z] at h; cases h)
    · exact R.io a i ((g a q).1 ▸ h)
  len := R.len
  slot := fun i s h => by
    obtain ⟨w, h1, h2⟩ := R.slot i s h
    exact ⟨w, h1, h2.mono (fun a q => ⟨(g a (R.trk a q)).1.trans q, fun z => (g a z).2⟩) fun a z _ => g a z⟩ }
end
end Sc

set_option Elab.async false
set_option linter.all false
set_option autoImplicit false
set_option maxRecDepth 100000
set_option maxHeartbeats 4000000
namespace Sc
open PySem PySem.Spec PyProof.Rows L2
abbrev Sg := L2.St

/-! ### results -/
structure Xc where
  cls : Str
  val : Option D
inductive Rs (α : Type) where
  | ok (a : α) (e : Ev) | exc (x : Xc) (e : Ev) | stuck
abbrev M (α : Type) := Ev → Rs α
def M.bind {α β : Type} (m : M α) (f : α → M β) : M β := fun e => match m e with
  | .ok a e' => f a e'
  | .exc x e' => .exc x e'
  | .stuck => .stuck
def M.pure {α : Type} (a : α) : M α := fun e => .ok a e
def M.stuck {α : Type} : M α := fun _ => .stuck
def M.opt {α : Type} : Option α → M α
  | some a => M.pure a
  | none => M.stuck
inductive Rv where
  | fz (d : D) | own (o : O) | slot (i : Nat)
/-- an exception's own things -/
def XcR (K : PySem.W.Frag) (c : CM) (H : Hp) (x : Xc) (cls : Value) (dd : Option Addr) : Prop :=
  cls = .ref (He.ga K x.cls) ∧ match x.val with
    | none => True
    | some d => ∃ dx v, dd = some dx ∧ H dx = some (.xd [(("value" : Str), v)]) ∧ c dx = .frz ∧ Fz K c H v d
def RvR (Hs : Hp) (K : PySem.W.Frag) (c : CM) (σ : Sg) (H : Hp) (v : V) : Rv → Prop
  | .fz d => Fz K c H v d
  | .own o => ∃ a, v = .ref a ∧ c a = .oth ∧ Hs a = none ∧ OAt K c H a o
  | .slot i => σ[i]? = some (some v)
def PostE (K : PySem.W.Frag) (B : Bs) (W : WX) (σ : Sg) (c : CM) (H : Hp) (r : Rs Rv) (Q : VK) : Prop := match r with
  | .ok r e' => ∀ c' H' v, Rep K B c' σ H' e' → Step c H c' H' → RvR H K c' σ H' v r → Q v H'
  | .exc x e' => ∀ c' H' cls dd, Rep K B c' σ H' e' → Step c H c' H' → XcR K c' H' x cls dd → W cls dd σ H'
  | .stuck => False
def tE (K : PySem.W.Frag) (B : Bs) (W : WX) (m : M Rv) : TE := fun σ H Q => ∃ c e, Rep K B c σ H e ∧ PostE K B W σ c H (m e) Q
def PostT (K : PySem.W.Frag) (B : Bs) (W : WX) (σ : Sg) (c : CM) (H : Hp) (r : Rs Bool) (Q : Bool → Hp → Prop) : Prop := match r with
  | .ok b e' => ∀ c' H', Rep K B c' σ H' e' → Step c H c' H' → Q b H'
  | .exc x e' => ∀ c' H' cls dd, Rep K B c' σ H' e' → Step c H c' H' → XcR K c' H' x cls dd → W cls dd σ H'
  | .stuck => False
def tT (K : PySem.W.Frag) (B : Bs) (W : WX) (m : M Bool) : TT := fun σ H Q => ∃ c e, Rep K B c σ H e ∧ PostT K B W σ c H (m e) Q
/-- the values of arguments; the fresh ones stand apart -/
inductive RvsR (Hs : Hp) (K : PySem.W.Frag) (c : CM) (σ : Sg) (H : Hp) : List V → List Rv → List Addr → Prop
  | nil : RvsR Hs K c σ H [] [] []
  | fz {v vs d rs as} : Fz K c H v d → RvsR Hs K c σ H vs rs as → RvsR Hs K c σ H (v :: vs) (.fz d :: rs) as
  | own {a o vs rs as} : c a = .oth → Hs a = none → OAt K c H a o → a ∉ as → RvsR Hs K c σ H vs rs as → RvsR Hs K c σ H (.ref a :: vs) (.own o :: rs) (a :: as)
  | slot {v vs i rs as} : σ[i]? = some (some v) → RvsR Hs K c σ H vs rs as → RvsR Hs K c σ H (v :: vs) (.slot i :: rs) as
def PostA (K : PySem.W.Frag) (B : Bs) (W : WX) (σ : Sg) (c : CM) (H : Hp) (r : Rs (List Rv)) (Q : List V → Hp → Prop) : Prop := match r with
  | .ok rs e' => ∀ c' H' vs as, Rep K B c' σ H' e' → Step c H c' H' → RvsR H K c' σ H' vs rs as → Q vs H'
  | .exc x e' => ∀ c' H' cls dd, Rep K B c' σ H' e' → Step c H c' H' → XcR K c' H' x cls dd → W cls dd σ H'
  | .stuck => False
def tA (K : PySem.W.Frag) (B : Bs) (W : WX) (m : M (List Rv)) : TA := fun σ H Q => ∃ c e, Rep K B c σ H e ∧ PostA K B W σ c H (m e) Q
structure SE (X : Cx) (B : Bs) (W : WX) (ex : Expr) (m : M Rv) : Prop where
  pe : PE X ex (tE X.K B W m)
structure STt (X : Cx) (B : Bs) (W : WX) (ex : Expr) (m : M Bool) : Prop where
  pt : PT X ex (tT X.K B W m)
structure SA (X : Cx) (B : Bs) (W : WX) (es : List Expr) (m : M (List Rv)) : Prop where
  pa : PA X es (tA X.K B W m)
section
variable {X : Cx} {K : PySem.W.Frag} {B : Bs} {W : WX} {σ : Sg} {c c' c2 : CM} {H H' H2 Hs : Hp} {e e' : Ev}
theorem PE.imp {ex : Expr} {t t' : TE} (h : PE X ex t) (i : ∀ σ H Q, t' σ H Q → t σ H Q) : PE X ex t' := ⟨fun pins s σ H Q I q => h.run pins s σ H Q I (i σ H Q q)⟩
theorem PT.imp {ex : Expr} {t t' : TT} (h : PT X ex t) (i : ∀ σ H Q, t' σ H Q → t σ H Q) : PT X ex t' := ⟨fun pins s σ H Q I q => h.run pins s σ H Q I (i σ H Q q)⟩
theorem PW.imp {ex : Expr} {t t' : TT} (h : PW X ex t) (i : ∀ σ H Q, t' σ H Q → t σ H Q) : PW X ex t' := ⟨fun wh pins s σ H Q I q => h.run wh pins s σ H Q I (i σ H Q q)⟩
theorem PA.imp {es : List Expr} {t t' : TA} (h : PA X es t) (i : ∀ σ H Q, t' σ H Q → t σ H Q) : PA X es t' := ⟨fun pos pins s σ H Q I q => h.run pos pins s σ H Q I (i σ H Q q)⟩
theorem PS.imp {st : Stmt} {t t' : TS} (h : PS X st t) (i : ∀ D σ H, t' D σ H → t D σ H) : PS X st t' := ⟨fun pins s σ H Q I q => h.run pins s σ H Q I (i _ σ H q)⟩
theorem PSs.imp {st : List Stmt} {t t' : TS} (h : PSs X st t) (i : ∀ D σ H, t' D σ H → t D σ H) : PSs X st t' := ⟨fun pins s σ H Q I q => h.run pins s σ H Q I (i _ σ H q)⟩

theorem XcR.mono {x : Xc} {cls : Value} {dd : Option Addr} (f : Frz c H c' H') (t : ∀ a, c a = .frz → H a ≠ none) (h : XcR K c H x cls dd) : XcR K c' H' x cls dd := by
  obtain ⟨h1, h2⟩ := h
  refine ⟨h1, ?_⟩
  cases q : x.val with
  | none => trivial
  | some d =>
    rw [q] at h2
    obtain ⟨dx, v, a1, a2, a3, a4⟩ := h2
    exact ⟨dx, v, a1, ((f dx a3).2 (by rw [a2]; simp)).trans a2, (f dx a3).1, a4.mono f⟩
/-- the wish, from further behind -/
theorem PostE.step {r : Rs Rv} {Q : VK} (S : Step c H c' H') (h : PostE K B W σ c H r Q) : PostE K B W σ c' H' r Q := by
  cases r with
  | ok r e' =>
    intro c2 H2 v R S2 rv
    refine h c2 H2 v R (S.trans S2) ?_
    cases r with
    | fz d => exact rv
    | own o => obtain ⟨a, h1, h2, h3, h4⟩ := rv; exact ⟨a, h1, h2, Classical.byContradiction fun z => (S.at_ a z).1 h3, h4⟩
    | slot i => exact rv
  | exc x e' => exact fun c2 H2 cls dd R S2 rx => h c2 H2 cls dd R (S.trans S2) rx
  | stuck => exact h
theorem PostT.step {r : Rs Bool} {Q : Bool → Hp → Prop} (S : Step c H c' H') (h : PostT K B W σ c H r Q) : PostT K B W σ c' H' r Q := by
  cases r with
  | ok r e' => exact fun c2 H2 R S2 => h c2 H2 R (S.trans S2)
  | exc x e' => exact fun c2 H2 cls dd R S2 rx => h c2 H2 cls dd R (S.trans S2) rx
  | stuck => exact h
theorem RvsR.back {vs : List V} {rs : List Rv} {as : List Addr} (S : Step c H c' H') : RvsR H' K c2 σ H2 vs rs as → RvsR H K c2 σ H2 vs rs as := by
  intro h
  induction h with
  | nil => exact .nil
  | fz a _ ih => exact .fz a ih
  | own h1 h2 h3 h4 _ ih => exact .own h1 (Classical.byContradiction fun z => (S.at_ _ z).1 h2) h3 h4 ih
  | slot a _ ih => exact .slot a ih
theorem RvsR.fresh {vs : List V} {rs : List Rv} {as : List Addr} (h : RvsR Hs K c σ H vs rs as) : ∀ a ∈ as, Hs a = none := by
  induction h with
  | nil => simp
  | fz a _ ih => exact ih
  | own h1 h2 h3 h4 _ ih => intro a ha; simp at ha; rcases ha with rfl | ha; exact h2; exact ih a ha
  | slot a _ ih => exact ih
theorem PostA.step {r : Rs (List Rv)} {Q : List V → Hp → Prop} (S : Step c H c' H') (h : PostA K B W σ c H r Q) : PostA K B W σ c' H' r Q := by
  cases r with
  | ok r e' => exact fun c2 H2 vs as R S2 rr => h c2 H2 vs as R (S.trans S2) (rr.back S)
  | exc x e' => exact fun c2 H2 cls dd R S2 rx => h c2 H2 cls dd R (S.trans S2) rx
  | stuck => exact h
/-- what was evaluated, behind more -/
theorem RvR.step {v : V} {r : Rv} (t : ∀ a, c a = .frz → H a ≠ none) (S : Step c H c' H') (h : RvR Hs K c σ H v r) : RvR Hs K c' σ H' v r := by
  cases r with
  | fz d => exact h.mono (S.frz t)
  | own o =>
    obtain ⟨a, h1, h2, h3, h4⟩ := h
    obtain ⟨q1, q2⟩ := (S.at_ a h4.some).2.2.1 h2
    exact ⟨a, h1, q1, h3, h4.mono (S.frz t) q2⟩
  | slot i => exact h
/-- expressions in a row -/
theorem tE.bind {A : M Rv} {f : Rv → M Rv} {Q : VK} {t : V → Hp → Prop} (h : PostE K B W σ c H ((A.bind f) e) Q) (R : Rep K B c σ H e)
    (hf : ∀ c' H' e' v r, Rep K B c' σ H' e' → Step c H c' H' → RvR H K c' σ H' v r → PostE K B W σ c' H' (f r e') Q → t v H') : tE K B W A σ H t := by
  refine ⟨c, e, R, ?_⟩
  unfold M.bind at h
  cases q : A e with
  | ok r e' => rw [q] at h; exact fun c' H' v R' S rv => hf c' H' e' v r R' S rv (h.step S)
  | exc x e' => rw [q] at h; exact h
  | stuck => rw [q] at h; exact h
theorem tE.bindT {A : M Rv} {f : Rv → M Bool} {Q : Bool → Hp → Prop} {t : V → Hp → Prop} (h : PostT K B W σ c H ((A.bind f) e) Q) (R : Rep K B c σ H e)
    (hf : ∀ c' H' e' v r, Rep K B c' σ H' e' → Step c H c' H' → RvR H K c' σ H' v r → PostT K B W σ c' H' (f r e') Q → t v H') : tE K B W A σ H t := by
  refine ⟨c, e, R, ?_⟩
  unfold M.bind at h
  cases q : A e with
  | ok r e' => rw [q] at h; exact fun c' H' v R' S rv => hf c' H' e' v r R' S rv (h.step S)
  | exc x e' => rw [q] at h; exact h
  | stuck => rw [q] at h; exact h
theorem tE.bindA {A : M Rv} {f : Rv → M (List Rv)} {Q : List V → Hp → Prop} {t : V → Hp → Prop} (h : PostA K B W σ c H ((A.bind f) e) Q) (R : Rep K B c σ H e)
    (hf : ∀ c' H' e' v r, Rep K B c' σ H' e' → Step c H c' H' → RvR H K c' σ H' v r → PostA K B W σ c' H' (f r e') Q → t v H') : tE K B W A σ H t := by
  refine ⟨c, e, R, ?_⟩
  unfold M.bind at h
  cases q : A e with
  | ok r e' => rw [q] at h; exact fun c' H' v R' S rv => hf c' H' e' v r R' S rv (h.step S)
  | exc x e' => rw [q] at h; exact h
  | stuck => rw [q] at h; exact h
theorem tT.bind {A : M Bool} {f : Bool → M Rv} {Q : VK} {t : Bool → Hp → Prop} (h : PostE K B W σ c H ((A.bind f) e) Q) (R : Rep K B c σ H e)
    (hf : ∀ c' H' e' b, Rep K B c' σ H' e' → Step c H c' H' → PostE K B W σ c' H' (f b e') Q → t b H') : tT K B W A σ H t := by
  refine ⟨c, e, R, ?_⟩
  unfold M.bind at h
  cases q : A e with
  | ok r e' => rw [q] at h; exact fun c' H' R' S => hf c' H' e' r R' S (h.step S)
  | exc x e' => rw [q] at h; exact h
  | stuck => rw [q] at h; exact h
theorem tT.bindT {A : M Bool} {f : Bool → M Bool} {Q : Bool → Hp → Prop} {t : Bool → Hp → Prop} (h : PostT K B W σ c H ((A.bind f) e) Q) (R : Rep K B c σ H e)
    (hf : ∀ c' H' e' b, Rep K B c' σ H' e' → Step c H c' H' → PostT K B W σ c' H' (f b e') Q → t b H') : tT K B W A σ H t := by
  refine ⟨c, e, R, ?_⟩
  unfold M.bind at h
  cases q : A e with
  | ok r e' => rw [q] at h; exact fun c' H' R' S => hf c' H' e' r R' S (h.step S)
  | exc x e' => rw [q] at h; exact h
  | stuck => rw [q] at h; exact h
theorem tA.bind {A : M (List Rv)} {f : List Rv → M Rv} {Q : VK} {t : List V → Hp → Prop} (h : PostE K B W σ c H ((A.bind f) e) Q) (R : Rep K B c σ H e)
    (hf : ∀ c' H' e' vs rs as, Rep K B c' σ H' e' → Step c H c' H' → RvsR H K c' σ H' vs rs as → PostE K B W σ c' H' (f rs e') Q → t vs H') : tA K B W A σ H t := by
  refine ⟨c, e, R, ?_⟩
  unfold M.bind at h
  cases q : A e with
  | ok r e' => rw [q] at h; exact fun c' H' vs as R' S rv => hf c' H' e' vs r as R' S rv (h.step S)
  | exc x e' => rw [q] at h; exact h
  | stuck => rw [q] at h; exact h

/-! ### what an operand is at the moment -/
def view : Rv → Ev → Option D
  | .fz d, _ => some d
  | .own o, _ => some o.toD
  | .slot i, e => match e[i]? with
    | some (.own o) => some o.toD
    | some (.io o) => some o.toD
    | _ => none
inductive Vw (K : PySem.W.Frag) (c : CM) (H : Hp) (v : V) (d : D) : Prop
  | fz (h : Fz K c H v d)
  | at_ (a : Addr) (o : O) (hv : v = .ref a) (hd : d = o.toD) (h : OAt K c H a o)
theorem view_ok {v : V} {r : Rv} {d : D} (R : Rep K B c σ H e) (h : RvR Hs K c σ H v r) (w : view r e = some d) : Vw K c H v d := by
  cases r with
  | fz d' => cases w; exact .fz h
  | own o => obtain ⟨a, h1, h2, h3, h4⟩ := h; cases w; exact .at_ a o h1 rfl h4
  | slot i =>
    unfold view at w
    cases q : e[i]? with
    | none => simp [q] at w
    | some s =>
      obtain ⟨ww, g1, g2⟩ := R.slot i s q
      have ew : ww = some v := Option.some.inj (g1.symm.trans h)
      subst ew
      cases s with
      | un => simp [q] at w
      | fz d' => simp [q] at w
      | own o =>
        simp [q] at w
        obtain ⟨a, k1, k2, k3⟩ := g2
        exact .at_ a o (Option.some.inj k1) w.symm k3
      | io o =>
        simp [q] at w
        obtain ⟨a, k1, k2, k3⟩ := g2
        exact .at_ a o (Option.some.inj k1) w.symm k3
theorem Vw.list {v : V} {ds : List D} (h : Vw K c H v (.lst ds)) : ∃ a xs, v = .ref a ∧ H a = some (.lst xs) ∧ FzA K c H xs ds := by
  cases h with
  | fz h => cases h with
    | lst h1 h2 h3 => exact ⟨_, _, rfl, h2, h3⟩
  | at_ a o hv hd h => cases o with
    | lst es => cases hd; obtain ⟨xs, h1, h2⟩ := h; exact ⟨a, xs, hv, h1, h2⟩
    | dic ks es => cases hd
    | obj C ks es => cases hd
theorem Vw.tup {v : V} {ds : List D} (h : Vw K c H v (.tup ds)) : ∃ a xs, v = .ref a ∧ SqT K H a xs ∧ FzA K c H xs ds := by
  cases h with
  | fz h => cases h with
    | tup h1 h2 h3 => exact ⟨_, _, rfl, SqT.of h2, h3⟩
    | ktup h2 h3 => obtain ⟨o, its, n, q⟩ := h2; exact ⟨_, _, rfl, .inr ⟨o, its, n, q⟩, h3⟩
  | at_ a o hv hd h => cases o <;> cases hd
theorem Vw.scr {v : V} {ns : List Int} (h : Vw K c H v (.scr ns)) : ∃ a, v = .ref a ∧ SqL K H a (ns.map V.int) := by
  cases h with
  | fz h => cases h with
    | scr h1 h2 => exact ⟨_, rfl, .inl h2⟩
    | kscr h => obtain ⟨o, its, n, q⟩ := h; exact ⟨_, rfl, .inr ⟨o, its, n, q⟩⟩
  | at_ a o hv hd h => cases o <;> cases hd
theorem Vw.int {v : V} {i : Int} (h : Vw K c H v (.int i)) : v = .int i := by
  cases h with
  | fz h => cases h; rfl
  | at_ a o hv hd h => cases o <;> cases hd
theorem Vw.str {v : V} {i : Str} (h : Vw K c H v (.str i)) : v = .str i := by
  cases h with
  | fz h => cases h; rfl
  | at_ a o hv hd h => cases o <;> cases hd
theorem Vw.bl {v : V} {i : Bool} (h : Vw K c H v (.bl i)) : v = .bl i := by
  cases h with
  | fz h => cases h; rfl
  | at_ a o hv hd h => cases o <;> cases hd
theorem Vw.non {v : V} (h : Vw K c H v .non) : v = .non := by
  cases h with
  | fz h => cases h; rfl
  | at_ a o hv hd h => cases o <;> cases hd
theorem Vw.dic {v : V} {ks : List Str} {ds : List D} (h : Vw K c H v (.dic ks ds)) : ∃ a kvs, v = .ref a ∧ H a = some (.dK kvs) ∧ kvs.map (·.1) = ks.map Sum.inr ∧ FzA K c H (kvs.map (·.2)) ds := by
  cases h with
  | fz h => cases h with
    | dic h1 h2 h3 h4 h5 => exact ⟨_, _, rfl, h2, h3, h4 ▸ h5⟩
  | at_ a o hv hd h => cases o with
    | lst es => cases hd
    | dic ks es => cases hd; obtain ⟨kvs, h1, h2, h3⟩ := h; exact ⟨a, kvs, hv, h1, h2, h3⟩
    | obj C ks es => cases hd
theorem Vw.obj {v : V} {C : Str} {ks : List Str} {ds : List D} (h : Vw K c H v (.obj C ks ds)) : ∃ a dx fs, v = .ref a ∧ H a = some (.ins (He.ga K C) dx fs) ∧ fs.map (·.1) = ks ∧ FzA K c H (fs.map (·.2)) ds := by
  cases h with
  | fz h => cases h with
    | obj h1 h2 h3 h4 h5 => exact ⟨_, _, _, rfl, h2, h3, h4 ▸ h5⟩
  | at_ a o hv hd h => cases o with
    | lst es => cases hd
    | dic ks es => cases hd
    | obj C ks es => cases hd; obtain ⟨dx, fs, h1, h2, h3⟩ := h; exact ⟨a, dx, fs, hv, h1, h2, h3⟩
theorem Vw.step {v : V} {d : D} {r : Rv} (t : ∀ a, c a = .frz → H a ≠ none) (S : Grow c H c' H') (h : Vw K c H v d) : Vw K c' H' v d := by
  cases h with
  | fz h => exact .fz (h.mono (S.step.frz t))
  | at_ a o hv hd h => exact .at_ a o hv hd (h.mono (S.step.frz t) (S a h.some).2)

/-! ### freezing -/
def freeze : Rv → Ev → Option (D × Ev)
  | .fz d, e => some (d, e)
  | .own o, e => some (o.toD, e)
  | .slot i, e => match e[i]? with
    | some (.own o) => some (o.toD, e.set i (.fz o.toD))
    | some (.fz d) => some (d, e)
    | _ => none
theorem Rep.set_slot {i : Nat} {s : Sl} {w : Option V} (R : Rep K B c σ H e) (hs : RepS K c H i s w) (hi : i < e.length) : Rep K B c (σ.set i w) H (e.set i s) where
  unt := R.unt
  keep := R.keep
  new := R.new
  io := R.io
  len := by rw [List.length_set, List.length_set]; exact R.len
  slot j t h := by
    by_cases q : i = j
    · subst q
      have l : i < σ.length := by rw [R.len]; exact hi
      rw [List.getElem?_set_self hi] at h
      cases h
      exact ⟨w, by rw [List.getElem?_set_self l], hs⟩
    · rw [List.getElem?_set_ne q] at h
      obtain ⟨ww, h1, h2⟩ := R.slot j t h
      exact ⟨ww, by rw [List.getElem?_set_ne q]; exact h1, h2⟩
theorem Rep.set_env {i : Nat} {s : Sl} (R : Rep K B c σ H e) (hs : ∀ w, σ[i]? = some w → RepS K c H i s w) : Rep K B c σ H (e.set i s) where
  unt := R.unt
  keep := R.keep
  new := R.new
  io := R.io
  len := by rw [List.length_set]; exact R.len
  slot j t h := by
    by_cases q : i = j
    · subst q
      rcases Nat.lt_or_ge i e.length with l | l
      · rw [List.getElem?_set_self l] at h
        cases h
        have l2 : i < σ.length := by rw [R.len]; exact l
        exact ⟨σ[i], by simp [l2], hs _ (by simp [l2])⟩
      · rw [List.set_eq_of_length_le l] at h
        rw [List.getElem?_eq_none l] at h
        cases h
    · rw [List.getElem?_set_ne q] at h
      exact R.slot j t h
/-- recolouring one address that no other slot owns -/
theorem Rep.recol {p : Addr} {k : Col} (R : Rep K B c σ H e) (hp : H p ≠ none) (h0 : c p ≠ .frz) (h1 : ∀ i s, e[i]? = some s → (∀ o, s ≠ .un → s = .own o → c p ≠ .own i) ∧ (∀ o, s = .io o → c p ≠ .io i)) (hk : ∀ i, k ≠ .own i ∧ k ≠ .io i) : Rep K B (cset c p k) σ H e where
  unt a h := by
    by_cases q : a = p
    · subst q; exact absurd h hp
    · rw [cset_ne q]; exact R.unt a h
  keep := R.keep
  new a i h := by
    by_cases q : a = p
    · subst q; rw [cset_same] at h; exact absurd h (hk i).1
    · rw [cset_ne q] at h; exact R.new a i h
  io a i h := by
    by_cases q : a = p
    · subst q; rw [cset_same] at h; exact absurd h (hk i).2
    · rw [cset_ne q] at h; exact R.io a i h
  len := R.len
  slot i s h := by
    obtain ⟨w, g1, g2⟩ := R.slot i s h
    refine ⟨w, g1, ?_⟩
    have fr : Frz c H (cset c p k) H := fun a ha => ⟨by rw [cset_ne (fun z => h0 (by rw [← z]; exact ha))]; exact ha, fun _ => rfl⟩
    cases s with
    | un => trivial
    | fz d => obtain ⟨v, a1, a2⟩ := g2; exact ⟨v, a1, a2.mono fr⟩
    | own o =>
      obtain ⟨a, a1, a2, a3⟩ := g2
      have na : a ≠ p := fun z => (h1 i _ h).1 o (by simp) rfl (by rw [← z]; exact a2)
      exact ⟨a, a1, by rw [cset_ne na]; exact a2, a3.mono fr rfl⟩
    | io o =>
      obtain ⟨a, a1, a2, a3⟩ := g2
      have na : a ≠ p := fun z => (h1 i _ h).2 o rfl (by rw [← z]; exact a2)
      exact ⟨a, a1, by rw [cset_ne na]; exact a2, a3.mono fr rfl⟩
end
end Sc

set_option Elab.async false
set_option linter.all false
set_option autoImplicit false
set_option maxRecDepth 100000
set_option maxHeartbeats 4000000
namespace Sc
open PySem PySem.Spec PyProof.Rows L2
section
variable {X : Cx} {K : PySem.W.Frag} {B : Bs} {W : WX} {σ : Sg} {c c' c2 c0 : CM} {H H' H2 Hs H0 : Hp} {e e' : Ev}

/-! ### freezing -/
theorem Step.recolF {p : Addr} {k : Col} (S : Step c0 H0 c H) (h : H0 p ≠ none → ∃ i, c p = .own i) : Step c0 H0 (cset c p k) H := ⟨fun a ha => by
  obtain ⟨h1, h2, h3, h4⟩ := S.at_ a ha
  by_cases q : a = p
  · subst q
    obtain ⟨i, z⟩ := h ha
    refine ⟨h1, fun g => ?_, fun g => ?_, fun j g => ?_⟩
    · rw [(h2 g).1] at z; cases z
    · rw [(h3 g).1] at z; cases z
    · rw [h4 j g] at z; cases z
  · rw [cset_ne q]; exact ⟨h1, h2, h3, h4⟩⟩
theorem frz_recol {p : Addr} {k : Col} (h : c p ≠ .frz ∨ k = .frz) : Frz c H (cset c p k) H := fun a ha => ⟨by
  by_cases q : a = p
  · subst q; rw [cset_same]; rcases h with h | h; exact absurd ha h; exact h
  · rw [cset_ne q]; exact ha, fun _ => rfl⟩
theorem Rep.un_recol {p : Addr} {i : Nat} {k : Col} (R : Rep K B c σ H e) (hc : c p = .own i) (hp : H p ≠ none) (hk : ∀ i, k ≠ .own i ∧ k ≠ .io i) : Rep K B (cset c p k) σ H (e.set i .un) := by
  refine (R.set_env (i := i) (s := .un) fun _ _ => trivial).recol hp (by rw [hc]; simp) (fun j s hj => ⟨fun o _ hs => ?_, fun o hs => by rw [hc]; simp⟩) hk
  rw [hc]
  intro z
  cases z
  subst hs
  rw [List.getElem?_set] at hj
  simp at hj
theorem slot_at {i : Nat} {s : Sl} {v : V} (R : Rep K B c σ H e) (q : e[i]? = some s) (h : σ[i]? = some (some v)) : RepS K c H i s (some v) := by
  obtain ⟨ww, g1, g2⟩ := R.slot i s q
  have ew : ww = some v := Option.some.inj (g1.symm.trans h)
  subst ew
  exact g2
theorem freeze_ok {v : V} {r : Rv} {d : D} (R : Rep K B c σ H e) (S : Step c0 H0 c H) (h : RvR H0 K c σ H v r) (w : freeze r e = some (d, e')) :
    ∃ c', Rep K B c' σ H e' ∧ Step c0 H0 c' H ∧ Fz K c' H v d ∧ Frz c H c' H ∧ ∀ a, c a = .oth → (∀ o, r = .own o → v ≠ .ref a) → c' a = .oth := by
  cases r with
  | fz d' => cases w; exact ⟨c, R, S, h, Frz.refl, fun _ q _ => q⟩
  | own o =>
    obtain ⟨a, rfl, h2, h3, h4⟩ := h
    cases w
    have f : Frz c H (cset c a .frz) H := frz_recol (.inr rfl)
    refine ⟨cset c a .frz, R.recol h4.some (by rw [h2]; simp) (fun i s _ => ⟨fun o _ _ => by rw [h2]; simp, fun o _ => by rw [h2]; simp⟩) (fun i => by simp), S.recolF (fun z => absurd h3 z), (h4.mono f rfl).freeze cset_same, f, fun b q n => ?_⟩
    rw [cset_ne (fun z => n o rfl (by rw [z]))]; exact q
  | slot i =>
    unfold freeze at w
    cases q : e[i]? with
    | none => simp [q] at w
    | some s =>
      have g2 := slot_at R q h
      cases s with
      | un => simp [q] at w
      | io o => simp [q] at w
      | fz d' =>
        simp [q] at w
        obtain ⟨rfl, rfl⟩ := w
        obtain ⟨v', k1, k2⟩ := g2
        cases k1
        exact ⟨c, R, S, k2, Frz.refl, fun _ q _ => q⟩
      | own o =>
        simp [q] at w
        obtain ⟨rfl, rfl⟩ := w
        obtain ⟨a, k1, k2, k3⟩ := g2
        cases k1
        have f : Frz c H (cset c a .frz) H := frz_recol (.inr rfl)
        have fz : Fz K (cset c a .frz) H (.ref a) o.toD := (k3.mono f rfl).freeze cset_same
        have R1 : Rep K B (cset c a .frz) σ H (e.set i .un) := R.un_recol k2 k3.some (fun i => by simp)
        have R2 := R1.set_env (i := i) (s := .fz o.toD) fun w hw => ⟨.ref a, by rw [h] at hw; cases hw; rfl, fz⟩
        rw [List.set_set] at R2
        refine ⟨cset c a .frz, R2, S.recolF (fun _ => ⟨i, k2⟩), fz, f, fun b q n => ?_⟩
        rw [cset_ne (fun z => by rw [z, k2] at q; cases q)]; exact q
def freezeAll : List Rv → Ev → Option (List D × Ev)
  | [], e => some ([], e)
  | r :: rs, e => match freeze r e with
    | some (d, e1) => match freezeAll rs e1 with
      | some (ds, e2) => some (d :: ds, e2)
      | none => none
    | none => none
theorem RvsR.recol {vs : List V} {rs : List Rv} {as : List Addr} (f : Frz c H c' H) (o : ∀ a ∈ as, c a = .oth → c' a = .oth) (h : RvsR Hs K c σ H vs rs as) : RvsR Hs K c' σ H vs rs as := by
  induction h with
  | nil => exact .nil
  | fz a _ ih => exact .fz (a.mono f) (ih o)
  | own h1 h2 h3 h4 _ ih => exact .own (o _ (by simp) h1) h2 (h3.mono f rfl) h4 (ih fun a ha => o a (by simp [ha]))
  | slot a _ ih => exact .slot a (ih o)
theorem freezeAll_ok {vs : List V} {rs : List Rv} {as : List Addr} : ∀ {c : CM} {e e' : Ev} {ds : List D}, Rep K B c σ H e → Step c0 H0 c H → RvsR H0 K c σ H vs rs as → freezeAll rs e = some (ds, e') →
    ∃ c', Rep K B c' σ H e' ∧ Step c0 H0 c' H ∧ FzA K c' H vs ds ∧ Frz c H c' H := by
  intro c e e' ds R S h
  induction rs generalizing vs as c e e' ds with
  | nil => intro w; cases h; cases w; exact ⟨c, R, S, .nil, Frz.refl⟩
  | cons r rs ih =>
    intro w
    unfold freezeAll at w
    cases q : freeze r e with
    | none => rw [q] at w; cases w
    | some p =>
      obtain ⟨d, e1⟩ := p
      rw [q] at w
      dsimp only at w
      cases q2 : freezeAll rs e1 with
      | none => rw [q2] at w; cases w
      | some p2 =>
        obtain ⟨ds2, e2⟩ := p2
        rw [q2] at w
        obtain ⟨rfl, rfl⟩ : d :: ds2 = ds ∧ e2 = e' := by simpa using w
        have go : ∀ {v : V} {vs' : List V} {as' : List Addr}, RvR H0 K c σ H v r → RvsR H0 K c σ H vs' rs as' → (∀ a ∈ as', ∀ o, r = .own o → v ≠ .ref a) → ∃ c', Rep K B c' σ H e2 ∧ Step c0 H0 c' H ∧ FzA K c' H (v :: vs') (d :: ds2) ∧ Frz c H c' H := by
          intro v vs' as' hv hr hn
          obtain ⟨c1, R1, S1, F1, f1, o1⟩ := freeze_ok R S hv q
          obtain ⟨c2, R2, S2, F2, f2⟩ := ih R1 S1 (hr.recol f1 fun a ha z => o1 a z (hn a ha)) q2
          exact ⟨c2, R2, S2, .cons (F1.mono f2) F2, fun a ha => ⟨(f2 a (f1 a ha).1).1, fun _ => rfl⟩⟩
        cases h with
        | fz a hr => exact go a hr fun b hb o z => by cases z
        | own h1 h2 h3 h4 hr => exact go ⟨_, rfl, h1, h2, h3⟩ hr fun b hb o _ z => by cases z; exact h4 hb
        | slot a hr => exact go a hr fun b hb o z => by cases z
end
end Sc

set_option Elab.async false
set_option linter.all false
set_option autoImplicit false
set_option maxRecDepth 100000
set_option maxHeartbeats 4000000
namespace Sc
open PySem PySem.Spec PyProof.Rows L2
/-- a new result, no slot -/
def RvN (Hs : Hp) (K : PySem.W.Frag) (c : CM) (H : Hp) (v : V) : Rv → Prop
  | .fz d => Fz K c H v d
  | .own o => ∃ a, v = .ref a ∧ c a = .oth ∧ Hs a = none ∧ OAt K c H a o
  | .slot _ => False
abbrev Unt (c : CM) (H : Hp) : Prop := ∀ a, H a = none → c a = .oth
section
variable {X : Cx} {K : PySem.W.Frag} {B : Bs} {W : WX} {σ : Sg} {c c' c2 c0 : CM} {H H' H2 Hs H0 : Hp} {e e' : Ev}
theorem RvN.rvr {v : V} {r : Rv} (h : RvN Hs K c H v r) : RvR Hs K c σ H v r := by
  cases r with
  | fz d => exact h
  | own o => exact h
  | slot i => exact h.elim
/-- a slot's name -/
def nameM (i : Nat) : M Rv := fun e => match e[i]? with
  | some (.fz d) => .ok (.fz d) e
  | some (.own _) => .ok (.slot i) e
  | some (.io _) => .ok (.slot i) e
  | _ => .stuck
def constM (d : D) : M Rv := fun e => .ok (.fz d) e
theorem se_name {i : Nat} {ex : Expr} (h : PE X ex (tVar i)) : SE X B W ex (nameM i) := ⟨PE.imp h fun σ H Q ⟨c, e, R, p⟩ => by
  unfold nameM at p
  cases q : e[i]? with
  | none => rw [q] at p; exact p.elim
  | some s =>
    rw [q] at p
    obtain ⟨w, h1, h2⟩ := R.slot i s q
    cases s with
    | un => exact p.elim
    | fz d => obtain ⟨v, rfl, hv⟩ := h2; exact ⟨v, h1, p c H v R Step.refl hv⟩
    | own o => obtain ⟨a, rfl, ha⟩ := h2; exact ⟨_, h1, p c H _ R Step.refl h1⟩
    | io o => obtain ⟨a, rfl, ha⟩ := h2; exact ⟨_, h1, p c H _ R Step.refl h1⟩⟩
/-- a value without an object -/
def flat : V → D → Prop
  | .non, .non => True
  | .bl a, .bl b => a = b
  | .int a, .int b => a = b
  | .str a, .str b => a = b
  | _, _ => False
theorem flat.fz {v : V} {d : D} (h : flat v d) : Fz K c H v d := by
  cases v <;> cases d <;> first | (cases h; constructor) | exact h.elim
theorem se_const {ex : Expr} {v : V} {d : D} (h : PE X ex (tC v)) (f : flat v d) : SE X B W ex (constM d) := ⟨PE.imp h fun σ H Q ⟨c, e, R, p⟩ => p c H v R Step.refl f.fz⟩
/-- a tuple of the module -/
theorem se_ktup {ex : Expr} {a : Addr} {xs : List V} {ds : List D} (h : PE X ex (tC (.ref a))) (k : KT X.K a xs) (f : ∀ c H, FzA X.K c H xs ds) : SE X B W ex (constM (.tup ds)) :=
  ⟨PE.imp h fun σ H Q ⟨c, e, R, p⟩ => p c H _ R Step.refl (.ktup k (f _ _))⟩

/-! ### operators of two views -/
def opM (f : D → D → Option Rv) (A C : M Rv) : M Rv := A.bind fun ra => C.bind fun rb => fun e => match view ra e with
  | some a => match view rb e with
    | some b => match f a b with
      | some r => .ok r e
      | none => .stuck
    | none => .stuck
  | none => .stuck
def OpF (X : Cx) (f : D → D → Option Rv) (r : R2) : Prop := ∀ (c : CM) (H : Hp) (x y : V) (a b : D) (rv : Rv) (Q : VK), Unt c H → Vw X.K c H x a → Vw X.K c H y b → f a b = some rv →
  (∀ c' H' v, Gr c H c' H' → RvN H X.K c' H' v rv → Q v H') → r x y H Q
theorem tOp_of {r : R2} {f : D → D → Option Rv} {A C : M Rv} {Q : VK} (hf : OpF X f r) (h : tE X.K B W (opM f A C) σ H Q) : tOp r (tE X.K B W A) (tE X.K B W C) σ H Q := by
  obtain ⟨c, e, R, p⟩ := h
  refine tE.bind p R fun c1 H1 e1 v1 r1 R1 S1 q1 p1 => tE.bind p1 R1 fun c2 H2 e2 v2 r2 R2 S2 q2 p2 => ?_
  have q1' := q1.step R1.trk S2
  cases w1 : view r1 e2 with
  | none => rw [w1] at p2; exact p2.elim
  | some a =>
    rw [w1] at p2
    dsimp only at p2
    cases w2 : view r2 e2 with
    | none => rw [w2] at p2; exact p2.elim
    | some b =>
      rw [w2] at p2
      dsimp only at p2
      cases w3 : f a b with
      | none => rw [w3] at p2; exact p2.elim
      | some rv =>
        rw [w3] at p2
        exact hf c2 H2 v1 v2 a b rv Q R2.unt (view_ok R2 q1' w1) (view_ok R2 q2 w2) w3 fun c3 H3 v g n => p2 c3 H3 v (R2.grow g) g.step n.rvr
theorem se_op {op : Operator} {a b : Expr} {pos : Pos} {r : R2} {f : D → D → Option Rv} {A C : M Rv} (ho : OpR X (binaryOp op) r) (hf : OpF X f r) (ha : SE X B W a A) (hb : SE X B W b C) : SE X B W (.BinOp a op b pos) (opM f A C) :=
  ⟨PE.imp (pe_op ho ha.pe hb.pe) fun σ H Q h => tOp_of hf h⟩
theorem se_cmp {op : CmpOp} {a b : Expr} {pos : Pos} {r : R2} {f : D → D → Option Rv} {A C : M Rv} (ho : OpR X (compareOp op) r) (hf : OpF X f r) (ha : SE X B W a A) (hb : SE X B W b C) (hm : behindInMarks op b = false) : SE X B W (.Compare a [op] [b] pos) (opM f A C) :=
  ⟨PE.imp (pe_cmpR ho ha.pe hb.pe hm) fun σ H Q h => tOp_of hf h⟩
theorem OpF.or {f g : D → D → Option Rv} {r s : R2} (h : OpF X f r) (k : OpF X g s) : OpF X (fun a b => match f a b with | some z => some z | none => g a b) (fun x y H Q => r x y H Q ∨ s x y H Q) := by
  intro c H x y a b rv Q u va vb hw hq
  cases q : f a b with
  | some z => simp only [q] at hw; cases hw; exact .inl (h c H x y a b rv Q u va vb q hq)
  | none => simp only [q] at hw; exact .inr (k c H x y a b rv Q u va vb hw hq)
def orF (f g : D → D → Option Rv) : D → D → Option Rv := fun a b => match f a b with | some z => some z | none => g a b
/-- ints to an int -/
def iiF (C : Int → Int → Bool) (g : Int → Int → D) : D → D → Option Rv
  | .int i, .int j => if C i j then some (.fz (g i j)) else none
  | _, _ => none
theorem opf_ii {C : Int → Int → Bool} {P : Int → Int → Prop} {g : Int → Int → D} {gv : Int → Int → V} (hP : ∀ i j, C i j = true → P i j) (hg : ∀ i j, flat (gv i j) (g i j)) : OpF X (iiF C g) (rI P gv) := by
  intro c H x y a b rv Q u va vb hw hq
  unfold iiF at hw
  split at hw
  · split at hw
    · cases hw
      rename_i i j hc
      exact ⟨i, j, va.int, vb.int, hP _ _ hc, hq c H _ (Gr.refl u) (hg i j).fz⟩
    · cases hw
  · cases hw
theorem opf_ii0 {g : Int → Int → D} {gv : Int → Int → V} (hg : ∀ i j, flat (gv i j) (g i j)) : OpF X (iiF (fun _ _ => true) g) (rI0 gv) := by
  intro c H x y a b rv Q u va vb hw hq
  unfold iiF at hw
  split at hw
  · simp only [if_true] at hw
    cases hw
    exact ⟨_, _, va.int, vb.int, hq c H _ (Gr.refl u) (hg _ _).fz⟩
  · cases hw
def subF := iiF (fun _ _ => true) fun i j => .int (i - j)
theorem opf_sub : OpF X subF (rI0 fun i j => .int (i - j)) := opf_ii0 fun _ _ => rfl
def mulF := iiF (fun i j => (decide (-(2 ^ 64) < i) && decide (i < 2 ^ 64)) || (decide (-(2 ^ 64) < j) && decide (j < 2 ^ 64))) fun i j => .int (i * j)
theorem opf_mul : OpF X mulF (rI CMul fun i j => .int (i * j)) := opf_ii (fun i j h => by simp at h; exact h) fun _ _ => rfl
def fdivF := iiF (fun i j => decide (0 < j) && decide (j < 1073741824)) fun i j => .int (i / j)
theorem opf_fdiv : OpF X fdivF (rI CDiv fun i j => .int (i / j)) := opf_ii (fun i j h => by simp at h; exact h) fun _ _ => rfl
def modF := iiF (fun i j => decide (0 < j)) fun i j => .int (i % j)
theorem opf_mod : OpF X modF (rI (fun _ j => 0 < j) fun i j => .int (i % j)) := opf_ii (fun i j h => by simpa using h) fun _ _ => rfl
def powF := iiF (fun i j => decide (0 ≤ j) && (decide (j ≤ 1000000) && decide (i.natAbs < 2 ^ 64))) fun i j => .int (i ^ j.toNat)
theorem opf_pow : OpF X powF (rI CPow fun i j => .int (i ^ j.toNat)) := opf_ii (fun i j h => by simp at h; exact h) fun _ _ => rfl
def ltF := iiF (fun _ _ => true) fun i j => .bl (decide (i < j))
theorem opf_lt : OpF X ltF (rI0 fun i j => .bl (decide (i < j))) := opf_ii0 fun _ _ => rfl
def leF := iiF (fun _ _ => true) fun i j => .bl (decide (i ≤ j))
theorem opf_le : OpF X leF (rI0 fun i j => .bl (decide (i ≤ j))) := opf_ii0 fun _ _ => rfl
def gtF := iiF (fun _ _ => true) fun i j => .bl (decide (j < i))
theorem opf_gt : OpF X gtF (rI0 fun i j => .bl (decide (j < i))) := opf_ii0 fun _ _ => rfl
def geF := iiF (fun _ _ => true) fun i j => .bl (decide (j ≤ i))
theorem opf_ge : OpF X geF (rI0 fun i j => .bl (decide (j ≤ i))) := opf_ii0 fun _ _ => rfl
/-- + -/
def addF : D → D → Option Rv
  | .int i, .int j => some (.fz (.int (i + j)))
  | .str i, .str j => if i.length + j.length ≤ sizeLine then some (.fz (.str (i ++ j))) else none
  | .lst xs, .lst ys => if xs.length + ys.length ≤ sizeLine then some (.own (.lst (xs ++ ys))) else none
  | .tup xs, .tup ys => if xs.length + ys.length ≤ sizeLine then some (.fz (.tup (xs ++ ys))) else none
  | _, _ => none
def rAddAll (K : PySem.W.Frag) : R2 := fun x y H Q => rI0 (fun i j => .int (i + j)) x y H Q ∨ (fun x y H Q => ((fun x y H Q => ∃ i j, x = .str i ∧ y = .str j ∧ i.length + j.length ≤ sizeLine ∧ Q (.str (i ++ j)) H) : R2) x y H Q ∨ (fun x y H Q => rCat x y H Q ∨ rCatA K x y H Q : R2) x y H Q : R2) x y H Q
theorem op_addAll : OpR X (binaryOp .Add) (rAddAll X.K) := OpR.or op_add (OpR.or op_add_str (OpR.or op_cat op_catA))
theorem SqT.keepU {a p : Addr} {o : HO} {xs : List V} (h : SqT K H a xs) (hp : H p = none) : SqT K (upd H p o) a xs := by
  rcases h with h | h
  · rcases h with h | ⟨ob, h⟩
    · exact .inl (.inl (by rw [upd_ne (ne_of_none h hp)]; exact h))
    · exact .inl (.inr ⟨ob, by rw [upd_ne (ne_of_none h hp)]; exact h⟩)
  · exact .inr h
theorem FzA.new {p : Addr} {k : Col} {o : HO} {xs : List V} {ds : List D} (u : Unt c H) (hp : H p = none) (h : FzA K c H xs ds) : FzA K (cset c p k) (upd H p o) xs ds :=
  h.mono fun a ha => by
    have n : a ≠ p := fun z => by rw [z, u p hp] at ha; cases ha
    exact ⟨by rw [cset_ne n]; exact ha, fun _ => upd_ne n⟩
theorem new_tup {p : Addr} {xs : List V} {ds : List D} (u : Unt c H) (hp : H p = none) (h : FzA K c H xs ds) : Gr c H (cset c p .frz) (upd H p (.tup xs)) ∧ Fz K (cset c p .frz) (upd H p (.tup xs)) (.ref p) (.tup ds) :=
  ⟨Gr.new u hp (by simp), .tup cset_same upd_same (h.new u hp)⟩
theorem new_lst {p : Addr} {xs : List V} {ds : List D} (u : Unt c H) (hp : H p = none) (h : FzA K c H xs ds) : Gr c H (cset c p .oth) (upd H p (.lst xs)) ∧ RvN H K (cset c p .oth) (upd H p (.lst xs)) (.ref p) (.own (.lst ds)) :=
  ⟨Gr.new u hp (by simp), ⟨p, rfl, cset_same, hp, xs, upd_same, h.new u hp⟩⟩
theorem opf_add : OpF X addF (rAddAll X.K) := by
  intro c H x y a b rv Q u va vb hw hq
  unfold addF at hw
  split at hw
  · cases hw
    exact .inl ⟨_, _, va.int, vb.int, hq c H _ (Gr.refl u) (.int _)⟩
  · split at hw
    · cases hw
      rename_i hs
      exact .inr (.inl ⟨_, _, va.str, vb.str, hs, hq c H _ (Gr.refl u) (.str _)⟩)
    · cases hw
  · split at hw
    · cases hw
      rename_i hs
      obtain ⟨p, xs', rfl, h1, h2⟩ := va.list
      obtain ⟨q, ys', rfl, g1, g2⟩ := vb.list
      refine .inr (.inr (.inl ⟨p, q, xs', ys', rfl, rfl, h1, g1, by rw [h2.length, g2.length]; exact hs, fun z hz => ?_⟩))
      obtain ⟨G, N⟩ := new_lst u hz (h2.append g2)
      exact hq _ _ _ G N
    · cases hw
  · split at hw
    · cases hw
      rename_i hs
      obtain ⟨p, xs', rfl, h1, h2⟩ := va.tup
      obtain ⟨q, ys', rfl, g1, g2⟩ := vb.tup
      refine .inr (.inr (.inr ⟨p, q, xs', ys', rfl, rfl, h1, g1, by rw [h2.length, g2.length]; exact hs, fun z => ?_, fun _ z => ?_, fun _ _ z hz => ?_⟩))
      · subst z
        cases h2
        cases vb with
        | fz h => exact hq c H _ (Gr.refl u) h
        | at_ a o hv hd h => cases o <;> cases hd
      · subst z
        cases g2
        cases va with
        | fz h => exact hq c H _ (Gr.refl u) (by rw [List.append_nil]; exact h)
        | at_ a o hv hd h => cases o <;> cases hd
      · obtain ⟨G, N⟩ := new_tup u hz (h2.append g2)
        exact hq _ _ _ G N
    · cases hw
  · cases hw
/-! ### equality -/
mutual
def toPy : D → Option PyData
  | .non => some .none
  | .bl b => some (.bool b)
  | .int i => some (.int i)
  | .str x => some (.str x)
  | .tup ds => (toPyAll ds).map .tuple
  | .lst ds => (toPyAll ds).map .list
  | _ => none
def toPyAll : List D → Option (List PyData)
  | [] => some []
  | d :: ds => match toPy d with
    | some p => (toPyAll ds).map (p :: ·)
    | none => none
end
theorem KT.sqt {a : Addr} {xs : List V} (h : KT K a xs) : SqT K H a xs := .inr h
mutual
theorem Fz.dp : ∀ {d : D} {v : V} {p : PyData}, Fz K c H v d → toPy d = some p → Dp K H v p
  | .non, _, p, h, e => by cases h; simp [toPy] at e; subst e; exact .non
  | .bl b, _, p, h, e => by cases h; simp [toPy] at e; subst e; exact .bl b
  | .int b, _, p, h, e => by cases h; simp [toPy] at e; subst e; exact .int b
  | .str b, _, p, h, e => by cases h; simp [toPy] at e; subst e; exact .str b
  | .tup ds, _, p, h, e => by
    simp [toPy] at e
    obtain ⟨ps, e1, rfl⟩ := e
    cases h with
    | tup a1 a2 a3 => exact .tup (SqT.of a2) (FzA.dp a3 e1)
    | ktup a2 a3 => exact .tup a2.sqt (FzA.dp a3 e1)
  | .lst ds, _, p, h, e => by
    simp [toPy] at e
    obtain ⟨ps, e1, rfl⟩ := e
    cases h with
    | lst a1 a2 a3 => exact .lst (SqL.of a2) (FzA.dp a3 e1)
  | .dic ks ds, _, p, h, e => by simp [toPy] at e
  | .obj C ks ds, _, p, h, e => by simp [toPy] at e
  | .scr ns, _, p, h, e => by simp [toPy] at e
theorem FzA.dp : ∀ {ds : List D} {vs : List V} {ps : List PyData}, FzA K c H vs ds → toPyAll ds = some ps → DpAll K H vs ps
  | [], _, ps, h, e => by cases h; simp [toPyAll] at e; subst e; exact .nil
  | d :: ds, _, ps, h, e => by
    cases h with
    | cons a b =>
      simp only [toPyAll] at e
      cases q : toPy d with
      | none => rw [q] at e; cases e
      | some p =>
        rw [q] at e
        simp at e
        obtain ⟨qs, e1, rfl⟩ := e
        exact .cons (Fz.dp a q) (FzA.dp b e1)
end
theorem Vw.dp {d : D} {v : V} {p : PyData} (h : Vw K c H v d) (e : toPy d = some p) : Dp K H v p := by
  cases h with
  | fz h => exact h.dp e
  | at_ a o hv hd h => cases o with
    | lst ds =>
      subst hv hd
      obtain ⟨xs, h1, h2⟩ := h
      simp [toPy, O.toD] at e
      obtain ⟨ps, e1, rfl⟩ := e
      exact .lst (SqL.of h1) (h2.dp e1)
    | dic ks ds => subst hd; simp [toPy, O.toD] at e
    | obj C ks ds => subst hd; simp [toPy, O.toD] at e
def eqF (a b : D) : Option Bool := match toPy a, toPy b with
  | some p, some q => if SeqAt.shaped p && SeqAt.shaped q then some (PyData.eqv p q) else none
  | _, _ => none
def eqOF (a b : D) : Option Rv := (eqF a b).map fun k => .fz (.bl k)
def neOF (a b : D) : Option Rv := (eqF a b).map fun k => .fz (.bl !k)
theorem eqF_ok {x y : V} {a b : D} {k : Bool} (va : Vw K c H x a) (vb : Vw K c H y b) (h : eqF a b = some k) : ∃ d f, Dp K H x d ∧ Dp K H y f ∧ SeqAt.shaped d = true ∧ SeqAt.shaped f = true ∧ PyData.eqv d f = k := by
  unfold eqF at h
  split at h
  · rename_i p q e1 e2
    split at h
    · rename_i hs
      cases h
      simp at hs
      exact ⟨p, q, va.dp e1, vb.dp e2, hs.1, hs.2, rfl⟩
    · cases h
  · cases h
theorem opf_eq : OpF X eqOF (rEqD X.K) := by
  intro c H x y a b rv Q u va vb hw hq
  unfold eqOF at hw
  cases q : eqF a b with
  | none => rw [q] at hw; cases hw
  | some k =>
    rw [q] at hw
    cases hw
    obtain ⟨d, f, h1, h2, h3, h4, rfl⟩ := eqF_ok va vb q
    exact ⟨d, f, h1, h2, h3, h4, hq c H _ (Gr.refl u) (.bl _)⟩
theorem opf_ne : OpF X neOF (rNeD X.K) := by
  intro c H x y a b rv Q u va vb hw hq
  unfold neOF at hw
  cases q : eqF a b with
  | none => rw [q] at hw; cases hw
  | some k =>
    rw [q] at hw
    cases hw
    obtain ⟨d, f, h1, h2, h3, h4, rfl⟩ := eqF_ok va vb q
    exact ⟨d, f, h1, h2, h3, h4, hq c H _ (Gr.refl u) (.bl _)⟩
/-- is None, is not None -/
def isNF (a b : D) : Option Rv := match a, b with
  | .non, .non => some (.fz (.bl true))
  | _, .non => some (.fz (.bl false))
  | _, _ => none
def isNotNF (a b : D) : Option Rv := match a, b with
  | .non, .non => some (.fz (.bl false))
  | _, .non => some (.fz (.bl true))
  | _, _ => none
theorem Vw.nonIff {v : V} {d : D} (h : Vw K c H v d) : v = .non ↔ d = .non := by
  cases h with
  | fz h => cases h <;> simp
  | at_ a o hv hd h => subst hv hd; cases o <;> simp [O.toD]
theorem opf_isN : OpF X isNF (fun x y H Q => y = .non ∧ Q (.bl (decide (x = .non))) H) := by
  intro c H x y a b rv Q u va vb hw hq
  unfold isNF at hw
  split at hw
  · cases hw
    rw [va.non]
    exact ⟨vb.non, hq c H _ (Gr.refl u) (by rw [decide_eq_true rfl]; exact .bl true)⟩
  · cases hw
    rename_i hn
    exact ⟨vb.non, hq c H _ (Gr.refl u) (by rw [decide_eq_false (fun z => hn (va.nonIff.mp z))]; exact .bl false)⟩
  · cases hw
theorem opf_isNotN : OpF X isNotNF (fun x y H Q => y = .non ∧ Q (.bl (!decide (x = .non))) H) := by
  intro c H x y a b rv Q u va vb hw hq
  unfold isNotNF at hw
  split at hw
  · cases hw
    rw [va.non]
    exact ⟨vb.non, hq c H _ (Gr.refl u) (by rw [decide_eq_true rfl]; exact .bl false)⟩
  · cases hw
    rename_i hn
    exact ⟨vb.non, hq c H _ (Gr.refl u) (by rw [decide_eq_false (fun z => hn (va.nonIff.mp z))]; exact .bl true)⟩
  · cases hw
end
end Sc

set_option Elab.async false
set_option linter.all false
set_option autoImplicit false
set_option maxRecDepth 100000
set_option maxHeartbeats 4000000
namespace Sc
open PySem PySem.Spec PyProof.Rows L2
section
variable {X : Cx} {K : PySem.W.Frag} {B : Bs} {W : WX} {σ : Sg} {c c' c2 c0 : CM} {H H' H2 Hs H0 : Hp} {e e' : Ev}
/-! ### truth -/
def viewB (r : Rv) (e : Ev) : Option Bool := match view r e with
  | some (.bl b) => some b
  | _ => none
theorem viewB_ok {v : V} {r : Rv} {b : Bool} (R : Rep K B c σ H e) (h : RvR Hs K c σ H v r) (w : viewB r e = some b) : v = .bl b := by
  unfold viewB at w
  split at w
  · rename_i d q; cases w; exact (view_ok R h q).bl
  · cases w
def andM (A C : M Rv) : M Rv := A.bind fun r e => match viewB r e with
  | some true => C e
  | some false => .ok (.fz (.bl false)) e
  | none => .stuck
def orM (A C : M Rv) : M Rv := A.bind fun r e => match viewB r e with
  | some true => .ok (.fz (.bl true)) e
  | some false => C e
  | none => .stuck
def notM (A : M Rv) : M Rv := A.bind fun r e => match viewB r e with
  | some b => .ok (.fz (.bl !b)) e
  | none => .stuck
variable {a b cc : Expr} {rest : List Expr} {pos : Pos} {A C G : M Rv}
theorem se_one {op : BoolOp} (h : SE X B W a A) : SE X B W (.BoolOp op [a] pos) A := ⟨pe_one h.pe⟩
theorem se_and (ha : SE X B W a A) (hb : SE X B W (.BoolOp .And (b :: rest) pos) C) : SE X B W (.BoolOp .And (a :: b :: rest) pos) (andM A C) :=
  ⟨PE.imp (pe_and ha.pe hb.pe) fun σ H Q ⟨c, e, R, p⟩ => tE.bind p R fun c1 H1 e1 v1 r1 R1 S1 q1 p1 => by
    cases w : viewB r1 e1 with
    | none => rw [w] at p1; exact p1.elim
    | some k =>
      rw [w] at p1
      refine ⟨k, viewB_ok R1 q1 w, ?_⟩
      cases k with
      | true => rw [if_pos rfl]; exact ⟨c1, e1, R1, p1⟩
      | false => rw [if_neg (by simp)]; exact p1 c1 H1 _ R1 Step.refl (.bl false)⟩
theorem se_or (ha : SE X B W a A) (hb : SE X B W (.BoolOp .Or (b :: rest) pos) C) : SE X B W (.BoolOp .Or (a :: b :: rest) pos) (orM A C) :=
  ⟨PE.imp (pe_or ha.pe hb.pe) fun σ H Q ⟨c, e, R, p⟩ => tE.bind p R fun c1 H1 e1 v1 r1 R1 S1 q1 p1 => by
    cases w : viewB r1 e1 with
    | none => rw [w] at p1; exact p1.elim
    | some k =>
      rw [w] at p1
      refine ⟨k, viewB_ok R1 q1 w, ?_⟩
      cases k with
      | true => rw [if_pos rfl]; exact p1 c1 H1 _ R1 Step.refl (.bl true)
      | false => rw [if_neg (by simp)]; exact ⟨c1, e1, R1, p1⟩⟩
theorem se_not (ha : SE X B W a A) : SE X B W (.UnaryOp .Not a pos) (notM A) :=
  ⟨PE.imp (pe_not ha.pe) fun σ H Q ⟨c, e, R, p⟩ => tE.bind p R fun c1 H1 e1 v1 r1 R1 S1 q1 p1 => by
    cases w : viewB r1 e1 with
    | none => rw [w] at p1; exact p1.elim
    | some k =>
      rw [w] at p1
      exact ⟨k, viewB_ok R1 q1 w, p1 c1 H1 _ R1 Step.refl (.bl _)⟩⟩
/-! tests -/
structure SW (X : Cx) (B : Bs) (W : WX) (ex : Expr) (m : M Bool) : Prop where
  pw : PW X ex (tT X.K B W m)
def testM (A : M Rv) : M Bool := A.bind fun r e => match viewB r e with
  | some b => .ok b e
  | none => .stuck
variable {T U : M Bool}
theorem st_val (h : SE X B W a A) (he : ∀ whole, isTrue a X.env whole = (do let v ← whole; standAt a.pos; holding [v] (truthy v)) := by intro _; rfl) : STt X B W a (testM A) :=
  ⟨PT.imp (pt_val h.pe he) fun σ H Q ⟨c, e, R, p⟩ => tE.bindT p R fun c1 H1 e1 v1 r1 R1 S1 q1 p1 => by
    cases w : viewB r1 e1 with
    | none => rw [w] at p1; exact p1.elim
    | some k => rw [w] at p1; exact ⟨k, viewB_ok R1 q1 w, p1 c1 H1 R1 Step.refl⟩⟩
def andT (T U : M Bool) : M Bool := T.bind fun b => if b then U else M.pure false
def orT (T U : M Bool) : M Bool := T.bind fun b => if b then M.pure true else U
def notT (T : M Bool) : M Bool := T.bind fun b => M.pure !b
theorem st_pw (h : SW X B W a T) : STt X B W a T := ⟨h.pw.pt⟩
theorem sw_and1 (h : STt X B W a T) : SW X B W (.BoolOp .And [a] pos) T := ⟨pw_and1 h.pt⟩
theorem sw_or1 (h : STt X B W a T) : SW X B W (.BoolOp .Or [a] pos) T := ⟨pw_or1 h.pt⟩
theorem sw_and (ha : STt X B W a T) (hb : SW X B W (.BoolOp .And (b :: rest) pos) U) : SW X B W (.BoolOp .And (a :: b :: rest) pos) (andT T U) :=
  ⟨PW.imp (pw_and ha.pt hb.pw) fun σ H Q ⟨c, e, R, p⟩ => tT.bindT p R fun c1 H1 e1 k R1 S1 p1 => by
    cases k with
    | true => rw [if_pos rfl]; exact ⟨c1, e1, R1, p1⟩
    | false => rw [if_neg (by simp)]; exact p1 c1 H1 R1 Step.refl⟩
theorem sw_or (ha : STt X B W a T) (hb : SW X B W (.BoolOp .Or (b :: rest) pos) U) : SW X B W (.BoolOp .Or (a :: b :: rest) pos) (orT T U) :=
  ⟨PW.imp (pw_or ha.pt hb.pw) fun σ H Q ⟨c, e, R, p⟩ => tT.bindT p R fun c1 H1 e1 k R1 S1 p1 => by
    cases k with
    | true => rw [if_pos rfl]; exact p1 c1 H1 R1 Step.refl
    | false => rw [if_neg (by simp)]; exact ⟨c1, e1, R1, p1⟩⟩
theorem st_not (ha : STt X B W a T) : STt X B W (.UnaryOp .Not a pos) (notT T) :=
  ⟨PT.imp (pt_not ha.pt) fun σ H Q ⟨c, e, R, p⟩ => tT.bindT p R fun c1 H1 e1 k R1 S1 p1 => p1 c1 H1 R1 Step.refl⟩
/-- a if t else b -/
def ifM (T : M Bool) (A C : M Rv) : M Rv := T.bind fun k => if k then A else C
theorem se_if (hc : STt X B W cc T) (ha : SE X B W a A) (hb : SE X B W b C) : SE X B W (.IfExp cc a b pos) (ifM T A C) :=
  ⟨PE.imp (pe_ifExp hc.pt ha.pe hb.pe) fun σ H Q ⟨c, e, R, p⟩ => tT.bind p R fun c1 H1 e1 k R1 S1 p1 => by
    cases k with
    | true => rw [if_pos rfl]; exact ⟨c1, e1, R1, p1⟩
    | false => rw [if_neg (by simp)]; exact ⟨c1, e1, R1, p1⟩⟩
/-- a op1 b op2 c -/
def chainM (f g : D → D → Option Rv) (A C G : M Rv) : M Rv := A.bind fun ra => C.bind fun rb => fun e => match view ra e with
  | some a => match view rb e with
    | some b => match f a b with
      | some (.fz (.bl true)) => (G.bind fun rc => fun e2 => match view rb e2 with
        | some b2 => match view rc e2 with
          | some cc => match g b2 cc with
            | some r => .ok r e2
            | none => .stuck
          | none => .stuck
        | none => .stuck) e
      | some (.fz (.bl false)) => .ok (.fz (.bl false)) e
      | _ => .stuck
    | none => .stuck
  | none => .stuck
theorem tChain_of {r r' : R2} {f g : D → D → Option Rv} {Q : VK} (hf : OpF X f r) (hg : OpF X g r') (h : tE X.K B W (chainM f g A C G) σ H Q) : tChain r r' (tE X.K B W A) (tE X.K B W C) (tE X.K B W G) σ H Q := by
  obtain ⟨c, e, R, p⟩ := h
  refine tE.bind p R fun c1 H1 e1 v1 r1 R1 S1 q1 p1 => tE.bind p1 R1 fun c2 H2 e2 v2 r2 R2 S2 q2 p2 => ?_
  have q1' := q1.step R1.trk S2
  cases w1 : view r1 e2 with
  | none => rw [w1] at p2; exact p2.elim
  | some x =>
    rw [w1] at p2
    dsimp only at p2
    cases w2 : view r2 e2 with
    | none => rw [w2] at p2; exact p2.elim
    | some y =>
      rw [w2] at p2
      dsimp only at p2
      split at p2
      · rename_i w3
        refine hf c2 H2 v1 v2 x y _ _ R2.unt (view_ok R2 q1' w1) (view_ok R2 q2 w2) w3 fun c3 H3 v g3 n => ?_
        cases n
        refine ⟨true, rfl, ?_⟩
        rw [if_pos rfl]
        have R3 := R2.grow g3
        refine tE.bind (p2.step g3.step) R3 fun c4 H4 e4 v4 r4 R4 S4 q4 p4 => ?_
        have q2' := (q2.step R2.trk g3.step).step R3.trk S4
        cases w5 : view r2 e4 with
        | none => rw [w5] at p4; exact p4.elim
        | some y2 =>
          rw [w5] at p4
          dsimp only at p4
          cases w6 : view r4 e4 with
          | none => rw [w6] at p4; exact p4.elim
          | some z =>
            rw [w6] at p4
            dsimp only at p4
            cases w7 : g y2 z with
            | none => rw [w7] at p4; exact p4.elim
            | some rv =>
              rw [w7] at p4
              exact hg c4 H4 v2 v4 y2 z rv Q R4.unt (view_ok R4 q2' w5) (view_ok R4 q4 w6) w7 fun c5 H5 v g5 n5 => p4 c5 H5 v (R4.grow g5) g5.step n5.rvr
      · rename_i w3
        refine hf c2 H2 v1 v2 x y _ _ R2.unt (view_ok R2 q1' w1) (view_ok R2 q2 w2) w3 fun c3 H3 v g3 n => ?_
        cases n
        refine ⟨false, rfl, ?_⟩
        rw [if_neg (by simp)]
        exact p2 c3 H3 _ (R2.grow g3) g3.step (.bl false)
      · exact p2.elim

theorem se_chain {op op' : CmpOp} {r r' : R2} {f g : D → D → Option Rv} (ho : OpR X (compareOp op) r) (hf : OpF X f r) (ho' : OpR X (compareOp op') r') (hg : OpF X g r') (ha : SE X B W a A) (hb : SE X B W b C) (hc : SE X B W cc G)
    (hm : lastMarks [op, op'] [b, cc] = false := by with_unfolding_all rfl) : SE X B W (.Compare a [op, op'] [b, cc] pos) (chainM f g A C G) := by
  exact ⟨PE.imp (pe_chain ho ho' ha.pe hb.pe hc.pe hm) fun σ H Q h => tChain_of hf hg h⟩
theorem st_chain {op op' : CmpOp} {r r' : R2} {f g : D → D → Option Rv} (ho : OpR X (compareOp op) r) (hf : OpF X f r) (ho' : OpR X (compareOp op') r') (hg : OpF X g r') (ha : SE X B W a A) (hb : SE X B W b C) (hc : SE X B W cc G)
    (hm : lastMarks [op, op'] [b, cc] = false := by with_unfolding_all rfl) : STt X B W (.Compare a [op, op'] [b, cc] pos) (testM (chainM f g A C G)) :=
  ⟨PT.imp (pt_chain ho ho' ha.pe hb.pe hc.pe hm) fun σ H Q ⟨c, e, R, p⟩ => by
    have h : tE X.K B W (chainM f g A C G) σ H fun v H1 => ∃ k, v = .bl k ∧ Q k H1 := tE.bindT p R fun c1 H1 e1 v1 r1 R1 S1 q1 p1 => by
      cases w : viewB r1 e1 with
      | none => rw [w] at p1; exact p1.elim
      | some k => rw [w] at p1; exact ⟨k, viewB_ok R1 q1 w, p1 c1 H1 R1 Step.refl⟩
    exact tChain_of hf hg h⟩

theorem st_cmp {op : CmpOp} {r : R2} {f : D → D → Option Rv} (ho : OpR X (compareOp op) r) (hf : OpF X f r) (ha : SE X B W a A) (hb : SE X B W b C) (hm : behindInMarks op b = false) : STt X B W (.Compare a [op] [b] pos) (testM (opM f A C)) :=
  ⟨PT.imp (pt_cmpR ho ha.pe hb.pe hm) fun σ H Q ⟨c, e, R, p⟩ => by
    have h : tE X.K B W (opM f A C) σ H fun v H1 => ∃ k, v = .bl k ∧ Q k H1 := tE.bindT p R fun c1 H1 e1 v1 r1 R1 S1 q1 p1 => by
      cases w : viewB r1 e1 with
      | none => rw [w] at p1; exact p1.elim
      | some k => rw [w] at p1; exact ⟨k, viewB_ok R1 q1 w, p1 c1 H1 R1 Step.refl⟩
    exact tOp_of hf h⟩

/-! ### membership -/
def flatD : D → Bool
  | .non => true | .bl _ => true | .int _ => true | .str _ => true | _ => false
def eqD1 : D → D → Bool
  | .non, .non => true
  | .bl a, .bl b => a == b
  | .bl a, .int b => (if a then 1 else 0) == b
  | .int a, .bl b => a == (if b then 1 else 0)
  | .int a, .int b => a == b
  | .str a, .str b => a == b
  | _, _ => false
def toV : D → V
  | .non => .non | .bl b => .bl b | .int i => .int i | .str x => .str x | _ => .non
theorem Fz.flatV {v : V} {d : D} (h : Fz K c H v d) (f : flatD d = true) : v = toV d := by
  cases h <;> first | rfl | cases f
theorem flatV_toV {d : D} : L2.flatV (toV d) = true := by cases d <;> rfl
theorem eqV_toV {d e : D} (f : flatD d = true) (g : flatD e = true) : eqV (toV d) (toV e) = eqD1 d e := by
  cases d <;> simp [flatD] at f <;> cases e <;> simp [flatD] at g <;> rfl
theorem FzA.flats : ∀ {vs : List V} {ds : List D}, FzA K c H vs ds → ds.all flatD = true → vs = ds.map toV
  | _, _, .nil, _ => rfl
  | _, _, .cons a b, f => by
    simp at f
    rw [List.map_cons, ← a.flatV f.1, ← FzA.flats b (by simpa using f.2)]
theorem all_flatV (ds : List D) : (ds.map toV).all L2.flatV = true := by
  induction ds with
  | nil => rfl
  | cons d ds ih => simp [ih, flatV_toV]
theorem inV_toV {d : D} (f : flatD d = true) : ∀ {ds : List D}, ds.all flatD = true → inV (toV d) (ds.map toV) = ds.any fun z => eqD1 z d
  | [], _ => rfl
  | z :: ds, g => by
    simp at g
    have ih := inV_toV f (ds := ds) (by simpa using g.2)
    unfold inV at ih ⊢
    rw [List.map_cons, List.any_cons, List.any_cons, eqV_toV g.1 f, ih]
def inF (a b : D) : Option Bool := match b with
  | .str z => match a with
    | .str x => match x.cps.toList with
      | [s] => some (decide (s ∈ z.cps.toList))
      | _ => none
    | _ => none
  | .tup ds => if flatD a && ds.all flatD then some (ds.any fun z => eqD1 z a) else none
  | .lst ds => if flatD a && ds.all flatD then some (ds.any fun z => eqD1 z a) else match toPy a, toPyAll ds with
    | some p, some ps => if SeqAt.shaped p && SeqAt.shaped (.list ps) then some (ps.any fun z => PyData.eqv z p) else none
    | _, _ => none
  | .dic ks ds => match a with
    | .str x => some (decide (x ∈ ks))
    | .int _ => some false
    | _ => none
  | _ => none
def rInAll (K : PySem.W.Frag) (neg : Bool) : R2 := fun x y H Q => (∃ (c : Nat) (z : Str), x = .str ⟨#[c]⟩ ∧ y = .str z ∧ Q (.bl (neg ^^ decide (c ∈ z.cps.toList))) H) ∨ rIn K neg x y H Q ∨
  (∃ d ds, Dp K H x d ∧ Dp K H y (.list ds) ∧ SeqAt.shaped d = true ∧ SeqAt.shaped (.list ds) = true ∧ Q (.bl (neg ^^ ds.any fun z => PyData.eqv z d)) H) ∨ ∃ a o, y = .ref a ∧ DGet H a x o ∧ Q (.bl (neg ^^ o.isSome)) H
theorem op_inAll (hu : X.A.units + 65 < cLine) : OpR X (compareOp .In) (rInAll X.K false) := by
  intro pins s σ H x y v u Q I rx ry h
  rcases h with ⟨c, z, h1, h2, h3⟩ | h | ⟨d, ds, h1, h2, h3, h4, h5⟩ | ⟨a, o, rfl, g, q⟩
  · exact op_in_sign pins s σ H x y v u Q I rx ry ⟨c, z, h1, h2, by simpa using h3⟩
  · exact op_in_seq pins s σ H x y v u Q I rx ry h
  · exact op_inD hu pins s σ H x y v u Q I rx ry ⟨d, ds, h1, h2, h3, h4, by simpa using h5⟩
  · obtain rfl : u = Value.ref a := ry
    exact d_in (by omega) I g rx fun s3 I3 => ⟨.bl o.isSome, H, I3, rfl, by simpa using q⟩
theorem op_notInAll (hu : X.A.units + 65 < cLine) : OpR X (compareOp .NotIn) (rInAll X.K true) := by
  intro pins s σ H x y v u Q I rx ry h
  rcases h with ⟨c, z, h1, h2, h3⟩ | h | ⟨d, ds, h1, h2, h3, h4, h5⟩ | ⟨a, o, rfl, g, q⟩
  · exact op_notIn_sign pins s σ H x y v u Q I rx ry ⟨c, z, h1, h2, by simpa using h3⟩
  · exact op_notIn_seq pins s σ H x y v u Q I rx ry h
  · exact op_notInD hu pins s σ H x y v u Q I rx ry ⟨d, ds, h1, h2, h3, h4, by simpa using h5⟩
  · obtain rfl : u = Value.ref a := ry
    exact d_notIn (by omega) I g rx fun s3 I3 => ⟨.bl (!o.isSome), H, I3, rfl, by simpa using q⟩
def inOF (neg : Bool) (a b : D) : Option Rv := (inF a b).map fun k => .fz (.bl (neg ^^ k))
theorem valV_some {kvs : List (Key × V)} {ks : List Str} (h : kvs.map (·.1) = ks.map Sum.inr) (x : Str) : (valV kvs (Sum.inr x)).isSome = decide (x ∈ ks) := by
  induction kvs generalizing ks with
  | nil => cases ks with
    | nil => simp [valV]
    | cons k ks => simp at h
  | cons p kvs ih => cases ks with
    | nil => simp at h
    | cons k ks =>
      simp at h
      obtain ⟨h1, h2⟩ := h
      have i := ih (ks := ks) (by simpa using h2)
      obtain ⟨pk, pv⟩ := p
      simp only at h1
      subst h1
      unfold valV at i ⊢
      rw [List.find?_cons]
      by_cases q : k = x
      · subst q; simp
      · rw [decide_eq_false (by simpa using q)]
        simp only [Bool.false_eq_true, if_false]
        rw [i]
        simp [fun z => q (Eq.symm z), Ne.symm q]
theorem valV_none {kvs : List (Key × V)} {ks : List Str} (h : kvs.map (·.1) = ks.map Sum.inr) (i : Int) : (valV kvs (Sum.inl i)).isSome = false := by
  induction kvs generalizing ks with
  | nil => rfl
  | cons p kvs ih => cases ks with
    | nil => simp at h
    | cons k ks =>
      simp at h
      obtain ⟨h1, h2⟩ := h
      have i := ih (ks := ks) (by simpa using h2)
      obtain ⟨pk, pv⟩ := p
      simp only at h1
      subst h1
      unfold valV at i ⊢
      rw [List.find?_cons, decide_eq_false (by simp)]
      exact i
theorem opf_in {neg : Bool} : OpF X (inOF neg) (rInAll X.K neg) := by
  intro c H x y a b rv Q u va vb hw hq
  unfold inOF at hw
  cases w : inF a b with
  | none => rw [w] at hw; cases hw
  | some k =>
    rw [w] at hw
    cases hw
    have fin : ∀ k', k' = k → Q (.bl (neg ^^ k')) H := fun k' e => by subst e; exact hq c H _ (Gr.refl u) (.bl _)
    unfold inF at w
    split at w
    · split at w
      · split at w
        · rename_i z _ x' _ s hs
          cases w
          refine .inl ⟨s, z, ?_, vb.str, fin _ rfl⟩
          rw [va.str]
          congr 1
          obtain ⟨cps⟩ := x'
          congr 1
          exact Array.ext' (by simpa using hs)
        · cases w
      · cases w
    · split at w
      · rename_i ds hf
        cases w
        simp at hf
        obtain ⟨p, xs, rfl, h1, h2⟩ := vb.tup
        have ex := h2.flats (by simpa using hf.2)
        subst ex
        have ea : x = toV a := by
          cases va with
          | fz h => exact h.flatV hf.1
          | at_ p o hv hd h => subst hd; cases o <;> cases hf.1
        subst ea
        refine .inr (.inl ⟨p, _, rfl, .inr h1, flatV_toV, all_flatV _, ?_⟩)
        have := fin _ rfl
        rw [← inV_toV hf.1 (by simpa using hf.2)] at this
        cases neg <;> simpa using this
      · cases w
    · split at w
      · rename_i ds hf
        cases w
        simp at hf
        obtain ⟨p, xs, rfl, h1, h2⟩ := vb.list
        have ex := h2.flats (by simpa using hf.2)
        subst ex
        have ea : x = toV a := by
          cases va with
          | fz h => exact h.flatV hf.1
          | at_ p o hv hd h => subst hd; cases o <;> cases hf.1
        subst ea
        refine .inr (.inl ⟨p, _, rfl, .inl (SqL.of h1), flatV_toV, all_flatV _, ?_⟩)
        have := fin _ rfl
        rw [← inV_toV hf.1 (by simpa using hf.2)] at this
        cases neg <;> simpa using this
      · split at w
        · rename_i ds hf p ps e1 e2
          split at w
          · rename_i hs
            cases w
            simp at hs
            exact .inr (.inr (.inl ⟨p, ps, va.dp e1, vb.dp (by simp [toPy, e2]), hs.1, hs.2, fin _ rfl⟩))
          · cases w
        · cases w
    · split at w
      · rename_i ks ds x'
        cases w
        obtain ⟨p, kvs, rfl, h1, h2, h3⟩ := vb.dic
        rw [va.str]
        exact .inr (.inr (.inr ⟨p, _, rfl, DGet.k (k := Sum.inr x') h1, fin _ (valV_some h2 x')⟩))
      · rename_i ks ds i
        cases w
        obtain ⟨p, kvs, rfl, h1, h2, h3⟩ := vb.dic
        rw [va.int]
        exact .inr (.inr (.inr ⟨p, _, rfl, DGet.k (k := Sum.inl i) h1, fin _ (valV_none h2 i)⟩))
      · cases w
    · cases w
end
end Sc

set_option Elab.async false
set_option linter.all false
set_option autoImplicit false
set_option maxRecDepth 100000
set_option maxHeartbeats 4000000
namespace Sc
open PySem PySem.Spec PyProof.Rows L2

/-! ### defs: arguments, what they hand back -/
inductive Arg where
  | fz (d : D) | io (o : O)
inductive Rt where
  | fz (d : D) | own (o : O)
inductive Out where
  | ret (r : Rt) (ios : List Arg)
  | exc (x : Xc) (ios : List Arg)
  | stuck
abbrev Fun := List Arg → Out
def Rt.rv : Rt → Rv
  | .fz d => .fz d
  | .own o => .own o
inductive ArgsR (K : PySem.W.Frag) (c : CM) (H : Hp) : Nat → List V → List Arg → Prop
  | nil {j} : ArgsR K c H j [] []
  | fz {j v vs d as} : Fz K c H v d → ArgsR K c H (j + 1) vs as → ArgsR K c H j (v :: vs) (.fz d :: as)
  | io {j a vs o as} : c a = .io j → OAt K c H a o → ArgsR K c H (j + 1) vs as → ArgsR K c H j (.ref a :: vs) (.io o :: as)
inductive IosR (K : PySem.W.Frag) (c : CM) (H : Hp) : Nat → List V → List Arg → Prop
  | nil {j} : IosR K c H j [] []
  | fz {j v vs d as} : IosR K c H (j + 1) vs as → IosR K c H j (v :: vs) (.fz d :: as)
  | io {j a vs o as} : c a = .io j → OAt K c H a o → IosR K c H (j + 1) vs as → IosR K c H j (.ref a :: vs) (.io o :: as)
def RtR (Hs : Hp) (K : PySem.W.Frag) (c : CM) (H : Hp) (v : V) : Rt → Prop
  | .fz d => Fz K c H v d
  | .own o => ∃ a, v = .ref a ∧ c a = .oth ∧ Hs a = none ∧ OAt K c H a o
def PostF (K : PySem.W.Frag) (c : CM) (H : Hp) (vs : List V) (r : Out) (Q : VK) (E : XK) : Prop := match r with
  | .ret r ios => ∀ c' H' v, Unt c' H' → Step c H c' H' → IosR K c' H' 0 vs ios → RtR H K c' H' v r → Q v H'
  | .exc x ios => ∀ c' H' cls dd, Unt c' H' → Step c H c' H' → IosR K c' H' 0 vs ios → XcR K c' H' x cls dd → E cls dd H'
  | .stuck => False
/-- the promise of a def, by what it computes -/
def spOf (K : PySem.W.Frag) (n : Nat) (F : Fun) : Sp := fun vs H Q E => vs.length = n ∧ ∃ c as, Unt c H ∧ (∀ a i, c a ≠ .own i) ∧ (∀ a j, c a = .io j → vs[j]? = some (.ref a)) ∧ ArgsR K c H 0 vs as ∧ PostF K c H vs (F as) Q E
structure Def (P : Program) (w : World) (K : PySem.W.Frag) (mg : Str → Option Value) (base : Heap) (k : Nat) (f : Addr) (n : Nat) (F : Fun) : Prop where
  ex : ∃ fd ps, FnOk P w K mg base (L2.CX P w) k f fd ps (spOf K n F) ∧ Binds K fd ps []
  kp : PySem.W.keepIn K (.ref f) = true

/-! ### lending -/
abbrev Back := Option (Nat × Bool)
/-- what isn't lent is frozen -/
def prep : List Bool → List Rv → Ev → Option (List Rv × Ev)
  | [], [], e => some ([], e)
  | false :: ms, r :: rs, e => match freeze r e with
    | some (d, e1) => match prep ms rs e1 with
      | some (rs', e2) => some (.fz d :: rs', e2)
      | none => none
    | none => none
  | true :: ms, r :: rs, e => match prep ms rs e with
    | some (rs', e2) => some (r :: rs', e2)
    | none => none
  | _, _, _ => none
def lend : List Bool → List Rv → Ev → Option (List Arg × List Back × Ev)
  | [], [], e => some ([], [], e)
  | false :: ms, .fz d :: rs, e => match lend ms rs e with
    | some (as, bs, e2) => some (.fz d :: as, none :: bs, e2)
    | none => none
  | true :: ms, .own o :: rs, e => match lend ms rs e with
    | some (as, bs, e2) => some (.io o :: as, none :: bs, e2)
    | none => none
  | true :: ms, .slot i :: rs, e => match e[i]? with
    | some (.own o) => match lend ms rs (e.set i .un) with
      | some (as, bs, e2) => some (.io o :: as, some (i, false) :: bs, e2)
      | none => none
    | some (.io o) => match lend ms rs (e.set i .un) with
      | some (as, bs, e2) => some (.io o :: as, some (i, true) :: bs, e2)
      | none => none
    | _ => none
  | _, _, _ => none
def wbAll : List Back → List Arg → Ev → Option Ev
  | [], [], e => some e
  | none :: bs, _ :: as, e => wbAll bs as e
  | some (i, k) :: bs, .io o :: as, e => wbAll bs as (e.set i (if k then .io o else .own o))
  | _, _, _ => none
def backM (out : Out) (bs : List Back) : M Rv := fun e => match out with
  | .ret r ios => match wbAll bs ios e with
    | some e2 => .ok r.rv e2
    | none => .stuck
  | .exc x ios => match wbAll bs ios e with
    | some e2 => .exc x e2
    | none => .stuck
  | .stuck => .stuck
def callF (md : List Bool) (F : Fun) (rs : List Rv) : M Rv := fun e => match prep md rs e with
  | some (rs', e1) => match lend md rs' e1 with
    | some (as, bs, e2) => backM (F as) bs e2
    | none => .stuck
  | none => .stuck
section
variable {X : Cx} {K : PySem.W.Frag} {B : Bs} {W : WX} {σ : Sg} {c c' c2 c0 c1 cp cc : CM} {H H' H2 Hs H0 : Hp} {e e' : Ev}
theorem prep_ok : ∀ {ms : List Bool} {rs rs' : List Rv} {vs : List V} {as : List Addr} {c : CM} {e e' : Ev}, Rep K B c σ H e → Step c0 H0 c H → RvsR H0 K c σ H vs rs as → prep ms rs e = some (rs', e') →
    ∃ c' as', Rep K B c' σ H e' ∧ Step c0 H0 c' H ∧ RvsR H0 K c' σ H vs rs' as' ∧ (∀ a ∈ as', a ∈ as) ∧ Frz c H c' H ∧ ∀ a, c a = .oth → a ∉ as → c' a = .oth := by
  intro ms
  induction ms with
  | nil =>
    intro rs rs' vs as c e e' R S h w
    cases rs with
    | nil => simp [prep] at w; obtain ⟨rfl, rfl⟩ := w; cases h; exact ⟨c, [], R, S, .nil, fun a h => h, Frz.refl, fun a h _ => h⟩
    | cons r rs => simp [prep] at w
  | cons m ms ih =>
    intro rs rs' vs as c e e' R S h w
    cases rs with
    | nil => cases m <;> simp [prep] at w
    | cons r rs =>
      cases m with
      | false =>
        simp only [prep] at w
        cases q : freeze r e with
        | none => rw [q] at w; cases w
        | some p =>
          obtain ⟨d, e1⟩ := p
          rw [q] at w
          dsimp only at w
          cases q2 : prep ms rs e1 with
          | none => rw [q2] at w; cases w
          | some p2 =>
            obtain ⟨rs2, e2⟩ := p2
            rw [q2] at w
            simp at w
            obtain ⟨rfl, rfl⟩ := w
            have go : ∀ {v : V} {vs' : List V} {t : List Addr}, (∀ a ∈ t, a ∈ as) → RvR H0 K c σ H v r → RvsR H0 K c σ H vs' rs t → (∀ a ∈ t, ∀ o, r = .own o → v ≠ .ref a) → (∀ a o, r = .own o → v = .ref a → a ∈ as) →
                ∃ c' as', Rep K B c' σ H e2 ∧ Step c0 H0 c' H ∧ RvsR H0 K c' σ H (v :: vs') (.fz d :: rs2) as' ∧ (∀ a ∈ as', a ∈ as) ∧ Frz c H c' H ∧ ∀ a, c a = .oth → a ∉ as → c' a = .oth := by
              intro v vs' t ht hv hr hn hm
              obtain ⟨c1, R1, S1, F1, f1, o1⟩ := freeze_ok R S hv q
              obtain ⟨c2, as2, R2, S2, V2, A2, f2, o2⟩ := ih R1 S1 (hr.recol f1 fun a ha z => o1 a z (hn a ha)) q2
              exact ⟨c2, as2, R2, S2, .fz (F1.mono f2) V2, fun a ha => ht a (A2 a ha), fun a ha => ⟨(f2 a (f1 a ha).1).1, fun _ => rfl⟩,
                fun a z n => o2 a (o1 a z fun o w y => n (hm a o w y)) fun y => n (ht a y)⟩
            cases h with
            | fz a hr => exact go (fun a h => h) a hr (fun b hb o z => by cases z) (fun a o z => by cases z)
            | own h1 h2 h3 h4 hr => exact go (fun a h => by simp [h]) ⟨_, rfl, h1, h2, h3⟩ hr (fun b hb o _ z => by cases z; exact h4 hb) (fun a o _ z => by cases z; simp)
            | slot a hr => exact go (fun a h => h) a hr (fun b hb o z => by cases z) (fun a o z => by cases z)
      | true =>
        simp only [prep] at w
        cases q2 : prep ms rs e with
        | none => rw [q2] at w; cases w
        | some p2 =>
          obtain ⟨rs2, e2⟩ := p2
          rw [q2] at w
          simp at w
          obtain ⟨rfl, rfl⟩ := w
          cases h with
          | fz a hr =>
            obtain ⟨c2, as2, R2, S2, V2, A2, f2, o2⟩ := ih R S hr q2
            exact ⟨c2, as2, R2, S2, .fz (a.mono f2) V2, A2, f2, o2⟩
          | own h1 h2 h3 h4 hr =>
            obtain ⟨c2, as2, R2, S2, V2, A2, f2, o2⟩ := ih R S hr q2
            refine ⟨c2, _, R2, S2, .own (o2 _ h1 h4) h2 (h3.mono f2 rfl) (fun z => h4 (A2 _ z)) V2, fun b hb => ?_, f2, fun b z n => o2 b z fun y => n (by simp [y])⟩
            simp at hb
            rcases hb with rfl | hb
            · simp
            · simp [A2 b hb]
          | slot a hr =>
            obtain ⟨c2, as2, R2, S2, V2, A2, f2, o2⟩ := ih R S hr q2
            exact ⟨c2, as2, R2, S2, .slot a V2, A2, f2, o2⟩
/-- how the arguments lie: cp the colours ahead of the lending, c with it -/
inductive LR (K : PySem.W.Frag) (σ : Sg) (H0 : Hp) (cp c : CM) (H : Hp) : Nat → List V → List Arg → List Back → Prop
  | nil {j} : LR K σ H0 cp c H j [] [] []
  | fz {j v vs d as bs} : Fz K c H v d → LR K σ H0 cp c H (j + 1) vs as bs → LR K σ H0 cp c H j (v :: vs) (.fz d :: as) (none :: bs)
  | tmp {j a vs o as bs} : c a = .lent j → OAt K c H a o → LR K σ H0 cp c H (j + 1) vs as bs → LR K σ H0 cp c H j (.ref a :: vs) (.io o :: as) (none :: bs)
  | slot {j a i k vs o as bs} : c a = .lent j → cp a = (if k = true then Col.io i else Col.own i) → σ[i]? = some (some (.ref a)) → OAt K c H a o → LR K σ H0 cp c H (j + 1) vs as bs → LR K σ H0 cp c H j (.ref a :: vs) (.io o :: as) (some (i, k) :: bs)
/-- lent, or as it was -/
structure Lnt (H0 : Hp) (cp c : CM) (H : Hp) (j : Nat) : Prop where
  or_ : ∀ a, c a = cp a ∨ ∃ k, k < j ∧ c a = .lent k
  no : ∀ a k, cp a ≠ .lent k
  frz : ∀ a k, c a = .lent k → H a ≠ none ∧ cp a ≠ .frz ∧ (cp a = .oth → H0 a = none)
theorem lend_ok : ∀ {ms : List Bool} {rs : List Rv} {vs : List V} {tms : List Addr} {j : Nat} {c : CM} {e e' : Ev} {as : List Arg} {bs : List Back}, Rep K B c σ H e → Lnt H0 cp c H j → RvsR H0 K c σ H vs rs tms → lend ms rs e = some (as, bs, e') →
    ∃ c' j', Rep K B c' σ H e' ∧ Lnt H0 cp c' H j' ∧ LR K σ H0 cp c' H j vs as bs ∧ Frz c H c' H ∧ (∀ a k, c a = .lent k → c' a = .lent k) ∧ (∀ a k, c' a = .lent k → c a = .lent k ∨ ∃ i, vs[i]? = some (.ref a) ∧ k = j + i) := by
  intro ms
  induction ms with
  | nil =>
    intro rs vs tms j c e e' as bs R L h w
    cases rs with
    | nil => simp [lend] at w; obtain ⟨rfl, rfl, rfl⟩ := w; cases h; exact ⟨c, j, R, L, .nil, Frz.refl, fun a k h => h, fun a k h => .inl h⟩
    | cons r rs => simp [lend] at w
  | cons m ms ih =>
    intro rs vs tms j c e e' as bs R L h w
    cases rs with
    | nil => cases m <;> simp [lend] at w
    | cons r rs =>
      have up : Lnt H0 cp c H (j + 1) := ⟨fun a => (L.or_ a).imp id fun ⟨k, h1, h2⟩ => ⟨k, by omega, h2⟩, L.no, L.frz⟩
      have lentNew : ∀ (a : Addr), H a ≠ none → c a = cp a → cp a ≠ .frz → (cp a = .oth → H0 a = none) → Lnt H0 cp (cset c a (.lent j)) H (j + 1) := fun a h1 h2 h3 h4 =>
        ⟨fun b => by
          by_cases q : b = a
          · subst q; exact .inr ⟨j, by omega, cset_same⟩
          · rw [cset_ne q]; exact up.or_ b, L.no, fun b k hb => by
          by_cases q : b = a
          · subst q; exact ⟨h1, h3, h4⟩
          · rw [cset_ne q] at hb; exact L.frz b k hb⟩
      have isCp : ∀ a, (∀ k, c a ≠ .lent k) → c a = cp a := fun a n => by
        rcases L.or_ a with h | ⟨k, _, h⟩
        · exact h
        · exact absurd h (n k)
      cases m with
      | false =>
        cases r with
        | own o => simp [lend] at w
        | slot i => simp [lend] at w
        | fz d =>
          simp only [lend] at w
          cases q2 : lend ms rs e with
          | none => rw [q2] at w; cases w
          | some p2 =>
            obtain ⟨as2, bs2, e2⟩ := p2
            rw [q2] at w
            simp at w
            obtain ⟨rfl, rfl, rfl⟩ := w
            cases h with
            | fz a hr =>
              obtain ⟨c2, j2, R2, L2, V2, f2, k2, w2⟩ := ih R up hr q2
              exact ⟨c2, j2, R2, L2, .fz (a.mono f2) V2, f2, k2, fun b k hb => (w2 b k hb).imp id fun ⟨i, h1, h2⟩ => ⟨i + 1, h1, by omega⟩⟩
      | true =>
        cases r with
        | fz d => simp [lend] at w
        | own o =>
          simp only [lend] at w
          cases q2 : lend ms rs e with
          | none => rw [q2] at w; cases w
          | some p2 =>
            obtain ⟨as2, bs2, e2⟩ := p2
            rw [q2] at w
            simp at w
            obtain ⟨rfl, rfl, rfl⟩ := w
            cases h with
            | own h1 h2 h3 h4 hr =>
              rename_i a vs' as'
              have f : Frz c H (cset c a (.lent j)) H := frz_recol (.inl (by rw [h1]; simp))
              have R1 : Rep K B (cset c a (.lent j)) σ H e := R.recol h3.some (by rw [h1]; simp) (fun i s _ => ⟨fun o _ _ => by rw [h1]; simp, fun o _ => by rw [h1]; simp⟩) (fun i => by simp)
              have e1 : c a = cp a := isCp a (by rw [h1]; simp)
              obtain ⟨c2, j2, R2, L2, V2, f2, k2, w2⟩ := ih R1 (lentNew a h3.some e1 (by rw [← e1, h1]; simp) fun _ => h2) (hr.recol f fun b hb z => by rw [cset_ne (fun y => h4 (by rw [← y]; exact hb))]; exact z) q2
              exact ⟨c2, j2, R2, L2, .tmp (k2 a j cset_same) ((h3.mono f rfl).mono f2 rfl) V2, fun b hb => ⟨(f2 b (f b hb).1).1, fun _ => rfl⟩,
                fun b k hb => k2 b k (by rw [cset_ne (fun y => by rw [y, h1] at hb; cases hb)]; exact hb), fun b k hb => by
                  rcases w2 b k hb with z | ⟨i, z1, z2⟩
                  · by_cases y : b = a
                    · subst y; rw [cset_same] at z; cases z; exact .inr ⟨0, rfl, rfl⟩
                    · rw [cset_ne y] at z; exact .inl z
                  · exact .inr ⟨i + 1, z1, by omega⟩⟩
        | slot i =>
          have fin : ∀ {s : Sl} {o : O} {k : Bool} {as2 : List Arg} {bs2 : List Back} {e2 : Ev} {v : V} {vs' : List V}, e[i]? = some s → (s = if k = true then Sl.io o else Sl.own o) → lend ms rs (e.set i .un) = some (as2, bs2, e2) → σ[i]? = some (some v) → RvsR H0 K c σ H vs' rs tms →
              ∃ c' j', Rep K B c' σ H e2 ∧ Lnt H0 cp c' H j' ∧ LR K σ H0 cp c' H j (v :: vs') (.io o :: as2) (some (i, k) :: bs2) ∧ Frz c H c' H ∧ (∀ a k, c a = .lent k → c' a = .lent k) ∧ (∀ a k, c' a = .lent k → c a = .lent k ∨ ∃ i, (v :: vs')[i]? = some (.ref a) ∧ k = j + i) := by
            intro s o k as2 bs2 e2 v vs' q es q2 hv hr
            have g := slot_at R q hv
            have ⟨a, ea, ca, oa⟩ : ∃ a, v = .ref a ∧ c a = (if k = true then Col.io i else Col.own i) ∧ OAt K c H a o := by
              cases k with
              | true => simp at es; subst es; obtain ⟨a, h1, h2, h3⟩ := g; exact ⟨a, by cases h1; rfl, by simpa using h2, h3⟩
              | false => simp at es; subst es; obtain ⟨a, h1, h2, h3⟩ := g; exact ⟨a, by cases h1; rfl, by simpa using h2, h3⟩
            subst ea
            have nf : c a ≠ .frz := by rw [ca]; cases k <;> simp
            have no : c a ≠ .oth := by rw [ca]; cases k <;> simp
            have nl : ∀ k, c a ≠ .lent k := by intro k'; rw [ca]; cases k <;> simp
            have f : Frz c H (cset c a (.lent j)) H := frz_recol (.inl nf)
            have R1 : Rep K B (cset c a (.lent j)) σ H (e.set i .un) := by
              refine (R.set_env (i := i) (s := .un) fun _ _ => trivial).recol oa.some nf (fun j' s' hj => ⟨fun o' _ hs => ?_, fun o' hs => ?_⟩) (fun i => by simp)
              · intro z
                rw [ca] at z
                cases k <;> simp at z
                subst z hs
                rw [List.getElem?_set] at hj
                simp at hj
              · intro z
                rw [ca] at z
                cases k <;> simp at z
                subst z hs
                rw [List.getElem?_set] at hj
                simp at hj
            have e1 : c a = cp a := isCp a nl
            obtain ⟨c2, j2, R2, L2, V2, f2, k2, w2⟩ := ih R1 (lentNew a oa.some e1 (by rw [← e1]; exact nf) fun z => absurd (e1.trans z) no) (hr.recol f fun b hb z => by rw [cset_ne (fun y => no (by rw [← y]; exact z))]; exact z) q2
            exact ⟨c2, j2, R2, L2, .slot (k2 a j cset_same) (e1.symm.trans ca) hv ((oa.mono f rfl).mono f2 rfl) V2, fun b hb => ⟨(f2 b (f b hb).1).1, fun _ => rfl⟩,
                fun b k' hb => k2 b k' (by rw [cset_ne (fun y => nl k' (by rw [← y]; exact hb))]; exact hb), fun b k' hb => by
                  rcases w2 b k' hb with z | ⟨i, z1, z2⟩
                  · by_cases y : b = a
                    · subst y; rw [cset_same] at z; cases z; exact .inr ⟨0, rfl, rfl⟩
                    · rw [cset_ne y] at z; exact .inl z
                  · exact .inr ⟨i + 1, z1, by omega⟩⟩
          simp only [lend] at w
          cases h with
          | slot hv hr =>
            split at w
            · rename_i o q
              split at w
              · rename_i as2 bs2 e2 q2
                simp at w
                obtain ⟨rfl, rfl, rfl⟩ := w
                exact fin q rfl q2 hv hr (k := false)
              · cases w
            · rename_i o q
              split at w
              · rename_i as2 bs2 e2 q2
                simp at w
                obtain ⟨rfl, rfl, rfl⟩ := w
                exact fin q rfl q2 hv hr (k := true)
              · cases w
            · cases w
/-- the def's own colours -/
def cdef (c : CM) (t : Nat) : CM := fun a => match c a with
  | .frz => .frz
  | .lent j => .io (j + t)
  | _ => .oth
theorem LR.args {j t : Nat} {vs : List V} {as : List Arg} {bs : List Back} (h : LR K σ H0 cp c H j vs as bs) : ArgsR K (cdef c t) H (j + t) vs as := by
  have f : Frz c H (cdef c t) H := fun a ha => ⟨by simp [cdef, ha], fun _ => rfl⟩
  induction h with
  | nil => exact .nil
  | fz a _ ih => rw [Nat.add_right_comm] at ih; exact .fz (a.mono f) ih
  | tmp h1 h2 _ ih => rw [Nat.add_right_comm] at ih; exact .io (by simp [cdef, h1]) (h2.mono f rfl) ih
  | slot h1 _ _ h2 _ ih => rw [Nat.add_right_comm] at ih; exact .io (by simp [cdef, h1]) (h2.mono f rfl) ih
/-- the caller's colours behind the call -/
def cback (cp : CM) (H : Hp) (c' : CM) : CM := fun a => match H a with
  | some _ => cp a
  | none => match c' a with
    | .frz => .frz
    | _ => .oth
theorem cback_old {a : Addr} (h : H a ≠ none) : cback cp H c' a = cp a := by
  unfold cback
  cases q : H a with
  | none => exact absurd q h
  | some o => rfl
theorem cback_new {a : Addr} (h : H a = none) : cback cp H c' a = .frz ∧ c' a = .frz ∨ cback cp H c' a = .oth ∧ c' a ≠ .frz := by
  unfold cback
  rw [h]
  dsimp only
  cases q : c' a <;> simp
structure Ret (cp c : CM) (H0 H : Hp) (c' : CM) (H' : Hp) (j : Nat) (t : Nat) : Prop where
  L : Lnt H0 cp c H j
  S : Step (cdef c t) H c' H'
  U : Unt c' H'
  up : Unt cp H
theorem Ret.frz {j t : Nat} (r : Ret cp c H0 H c' H' j t) : Frz c' H' (cback cp H c') H' := fun a ha => by
  refine ⟨?_, fun _ => rfl⟩
  by_cases q : H a = none
  · rcases cback_new (cp := cp) (c' := c') q with ⟨h, _⟩ | ⟨_, h⟩
    · exact h
    · exact absurd ha h
  · rw [cback_old q]
    obtain ⟨h1, h2, h3, h4⟩ := r.S.at_ a q
    rcases r.L.or_ a with z | ⟨k, _, z⟩
    · rw [← z]
      cases w : c a with
      | frz => rfl
      | own i => have := (h3 (by simp [cdef, w])).1; rw [this] at ha; cases ha
      | io i => have := (h3 (by simp [cdef, w])).1; rw [this] at ha; cases ha
      | oth => have := (h3 (by simp [cdef, w])).1; rw [this] at ha; cases ha
      | lent i => rw [w] at z; exact absurd z.symm (r.L.no a i)
    · have := h4 (k + t) (by simp [cdef, z]); rw [this] at ha; cases ha
theorem Ret.back {j t : Nat} (r : Ret cp c H0 H c' H' j t) (S0 : Step c0 H0 cp H) : Step c0 H0 (cback cp H c') H' := ⟨fun a ha => by
  obtain ⟨g1, g2, g3, g4⟩ := S0.at_ a ha
  rw [cback_old g1]
  obtain ⟨h1, h2, h3, h4⟩ := r.S.at_ a g1
  refine ⟨h1, fun z => ⟨(g2 z).1, ?_⟩, fun z => ⟨(g3 z).1, ?_⟩, g4⟩
  · have e : c a = .frz := by
      rcases r.L.or_ a with w | ⟨k, _, w⟩
      · rw [w]; exact (g2 z).1
      · exact absurd (g2 z).1 (r.L.frz a k w).2.1
    rw [(h2 (by simp [cdef, e])).2, (g2 z).2]
  · have e : c a = .oth := by
      rcases r.L.or_ a with w | ⟨k, _, w⟩
      · rw [w]; exact (g3 z).1
      · exact absurd ((r.L.frz a k w).2.2 (g3 z).1) ha
    rw [(h3 (by simp [cdef, e])).2, (g3 z).2]⟩
theorem Ret.rep {j t : Nat} (r : Ret cp c H0 H c' H' j t) (Rp : Rep K B cp σ H e') (R : Rep K B c σ H e) : Rep K B (cback cp H c') σ H' e where
  unt a h := by
    have q : H a = none := Classical.byContradiction fun z => (r.S.at_ a z).1 h
    rcases cback_new (cp := cp) (c' := c') q with ⟨_, h2⟩ | ⟨h2, _⟩
    · rw [r.U a h] at h2; cases h2
    · exact h2
  keep a h := (r.S.at_ a (R.keep a h)).1
  new a i h := by
    by_cases q : H a = none
    · rcases cback_new (cp := cp) (c' := c') q with ⟨h2, _⟩ | ⟨h2, _⟩ <;> (rw [h2] at h; cases h)
    · rw [cback_old q] at h; exact Rp.new a i h
  io a i h := by
    by_cases q : H a = none
    · rcases cback_new (cp := cp) (c' := c') q with ⟨h2, _⟩ | ⟨h2, _⟩ <;> (rw [h2] at h; cases h)
    · rw [cback_old q] at h; exact Rp.io a i h
  len := R.len
  slot i s h := by
    obtain ⟨w, h1, h2⟩ := R.slot i s h
    have f : Frz c H (cback cp H c') H' := fun a ha => by
      have q := R.trk a ha
      obtain ⟨g1, g2, g3, g4⟩ := r.S.at_ a q
      refine ⟨?_, fun _ => (g2 (by simp [cdef, ha])).2⟩
      rw [cback_old q]
      rcases r.L.or_ a with z | ⟨k, _, z⟩
      · rw [← z]; exact ha
      · rw [z] at ha; cases ha
    refine ⟨w, h1, h2.mono f fun a q z => ?_⟩
    obtain ⟨g1, g2, g3, g4⟩ := r.S.at_ a q
    have n : ∀ k, c a ≠ .lent k := by intro k y; rcases z with z | z <;> (rw [z] at y; cases y)
    refine ⟨?_, (g3 (by rcases z with z | z <;> simp [cdef, z])).2⟩
    rw [cback_old q]
    rcases r.L.or_ a with y | ⟨k, _, y⟩
    · exact y.symm
    · exact absurd y (n k)
theorem Ret.wb {jj t : Nat} (r : Ret cp c H0 H c' H' jj t) : ∀ {bs : List Back} {as ios : List Arg} {vs : List V} {j : Nat} {e e2 : Ev}, Rep K B (cback cp H c') σ H' e → LR K σ H0 cp c H j vs as bs → IosR K c' H' (j + t) vs ios → wbAll bs ios e = some e2 → Rep K B (cback cp H c') σ H' e2 := by
  intro bs
  induction bs with
  | nil =>
    intro as ios vs j e e2 R h hi w
    cases ios with
    | nil => simp [wbAll] at w; subst w; exact R
    | cons a ios => simp [wbAll] at w
  | cons b bs ih =>
    intro as ios vs j e e2 R h hi w
    have sh : ∀ {vs ios}, IosR K c' H' (j + t + 1) vs ios → IosR K c' H' (j + 1 + t) vs ios := fun h => by rw [Nat.add_right_comm]; exact h
    cases h with
    | fz a hr => cases hi with
      | fz hi => simp only [wbAll] at w; exact ih R hr (sh hi) w
      | io z1 z2 hi => simp only [wbAll] at w; exact ih R hr (sh hi) w
    | tmp h1 h2 hr => cases hi with
      | fz hi => simp only [wbAll] at w; exact ih R hr (sh hi) w
      | io z1 z2 hi => simp only [wbAll] at w; exact ih R hr (sh hi) w
    | slot h1 h2 h3 h4 hr => cases hi with
      | fz hi => simp [wbAll] at w
      | io z1 z2 hi =>
        rename_i a i k vs' o as' o' ios'
        simp only [wbAll] at w
        refine ih (R.set_env fun ww hw => ?_) hr (sh hi) w
        rw [h3] at hw
        cases hw
        have z3 : OAt K (cback cp H c') H' a o' := z2.mono r.frz rfl
        have z4 : cback cp H c' a = (if k = true then Col.io i else Col.own i) := by rw [cback_old h4.some]; exact h2
        cases k with
        | true => exact ⟨a, rfl, by simpa using z4, z3⟩
        | false => exact ⟨a, rfl, by simpa using z4, z3⟩
theorem LR.len {j : Nat} {vs : List V} {as : List Arg} {bs : List Back} (h : LR K σ H0 cp c H j vs as bs) : vs.length = as.length := by
  induction h with
  | nil => rfl
  | fz _ _ ih => simp [ih]
  | tmp _ _ _ ih => simp [ih]
  | slot _ _ _ _ _ ih => simp [ih]
theorem lend_lens : ∀ {ms : List Bool} {rs : List Rv} {e e' : Ev} {as : List Arg} {bs : List Back}, lend ms rs e = some (as, bs, e') → as.length = ms.length := by
  intro ms
  induction ms with
  | nil => intro rs e e' as bs h; cases rs with
    | nil => simp [lend] at h; obtain ⟨rfl, rfl, rfl⟩ := h; rfl
    | cons r rs => simp [lend] at h
  | cons m ms ih =>
    intro rs e e' as bs h
    cases rs with
    | nil => cases m <;> simp [lend] at h
    | cons r rs =>
      cases m <;> cases r <;> simp only [lend] at h <;> (try cases h) <;> (repeat' split at h) <;> simp at h
      all_goals (obtain ⟨rfl, rfl, rfl⟩ := h; rename_i q; simp [ih q])
/-- no colour of lending -/
def unl (c : CM) : CM := fun a => match c a with
  | .lent _ => .oth
  | k => k
theorem unl_of {a : Addr} {k : Col} (h : c a = k) (n : ∀ j, k ≠ .lent j) : unl c a = k := by
  unfold unl; rw [h]; cases k <;> first | rfl | exact absurd rfl (n _)
theorem unl_no (a : Addr) (k : Nat) : unl c a ≠ .lent k := by
  unfold unl; cases c a <;> simp
theorem unl_frz : Frz c H (unl c) H := fun a ha => ⟨unl_of ha (by simp), fun _ => rfl⟩
theorem Rep.unl (R : Rep K B c σ H e) : Rep K B (unl c) σ H e where
  unt a h := unl_of (R.unt a h) (by simp)
  keep := R.keep
  new a i h := R.new a i (by unfold Sc.unl at h; cases q : c a <;> rw [q] at h <;> first | exact h | cases h)
  io a i h := R.io a i (by unfold Sc.unl at h; cases q : c a <;> rw [q] at h <;> first | exact h | cases h)
  len := R.len
  slot i s h := by
    obtain ⟨w, h1, h2⟩ := R.slot i s h
    exact ⟨w, h1, h2.mono unl_frz fun a _ z => ⟨by rcases z with z | z <;> rw [z] <;> exact unl_of z (by simp), rfl⟩⟩
theorem Step.unl (S : Step c0 H0 c H) : Step c0 H0 (unl c) H := ⟨fun a ha => by
  obtain ⟨h1, h2, h3, h4⟩ := S.at_ a ha
  exact ⟨h1, fun z => ⟨unl_of (h2 z).1 (by simp), (h2 z).2⟩, fun z => ⟨unl_of (h3 z).1 (by simp), (h3 z).2⟩, fun j z => unl_of (h4 j z) (by simp)⟩⟩
theorem RvsR.unl {vs : List V} {rs : List Rv} {as : List Addr} (h : RvsR Hs K c σ H vs rs as) : RvsR Hs K (unl c) σ H vs rs as := h.recol unl_frz fun a _ z => unl_of z (by simp)
theorem RtR.rv {v : V} {r : Rt} (S : Step c0 H0 c H) (f : Frz c' H' c2 H') (o : ∀ a, H a = none → c' a = .oth → c2 a = .oth) (h : RtR H K c' H' v r) : RvR H0 K c2 σ H' v r.rv := by
  cases r with
  | fz d => exact h.mono f
  | own o' =>
    obtain ⟨a, h1, h2, h3, h4⟩ := h
    exact ⟨a, h1, o a h3 h2, Classical.byContradiction fun z => (S.at_ a z).1 h3, h4.mono f rfl⟩
/-- the call's own rule: from the arguments as they lie to the promise -/
theorem callF_ok {md : List Bool} {F : Fun} {rs : List Rv} {vs : List V} {as : List Addr} {Q : VK} (Rp : Rep K B c σ H e) (S : Step c0 H0 c H) (h : RvsR H0 K c σ H vs rs as)
    (P : PostE K B W σ c0 H0 (callF md F rs e) Q) : spOf K md.length F vs H Q (WE W σ) := by
  unfold callF at P
  cases q1 : prep md rs e with
  | none => rw [q1] at P; exact P.elim
  | some p1 =>
    obtain ⟨rs1, e1⟩ := p1
    rw [q1] at P
    dsimp only at P
    cases q2 : lend md rs1 e1 with
    | none => rw [q2] at P; exact P.elim
    | some p2 =>
      obtain ⟨args, bs, e2⟩ := p2
      rw [q2] at P
      dsimp only at P
      obtain ⟨cp, as', R1, S1, V1, A1, f1, o1⟩ := prep_ok Rp S h q1
      have R1 := R1.unl
      have S1 := S1.unl
      have V1 := V1.unl
      generalize unl cp = cq at *
      have L0 : Lnt H0 (unl cq) (unl cq) H 0 := ⟨fun a => .inl rfl, fun a k => unl_no a k, fun a k z => absurd z (unl_no a k)⟩
      have R1 := R1.unl
      have S1 := S1.unl
      have V1 := V1.unl
      generalize unl cq = cr at *
      obtain ⟨c2, j2, R2, L2, V2, f2, k2, w2⟩ := lend_ok R1 L0 V1 q2
      have hio : ∀ a j, cdef c2 0 a = .io j → vs[j]? = some (.ref a) := fun a j h => by
        unfold cdef at h
        cases q : c2 a <;> rw [q] at h <;> cases h
        rcases w2 a _ q with z | ⟨i, z1, z2⟩
        · exact absurd z (fun z => by rcases L0.or_ a with y | ⟨k, y, _⟩; exact L0.no a _ (y ▸ z); omega)
        · rw [z2, Nat.zero_add]; exact z1
      have Uc : Unt (cdef c2 0) H := fun a ha => by simp [cdef, R2.unt a ha]
      refine ⟨by rw [V2.len, lend_lens q2], cdef c2 0, args, Uc, fun a i => by unfold cdef; cases c2 a <;> simp, hio, V2.args (t := 0), ?_⟩
      unfold backM at P
      cases q3 : F args with
      | stuck => rw [q3] at P; exact P.elim
      | ret r ios =>
        rw [q3] at P
        dsimp only at P
        intro c' H' v U' S' I' r'
        have rt : Ret cr c2 H0 H c' H' j2 0 := ⟨L2, S', U', R1.unt⟩
        cases q4 : wbAll bs ios e2 with
        | none => rw [q4] at P; exact P.elim
        | some e3 =>
          rw [q4] at P
          refine P (cback cr H c') H' v (rt.wb (rt.rep R1 R2) V2 I' q4) (rt.back S1) (r'.rv S1 rt.frz fun a ha z => ?_)
          rcases cback_new (cp := cr) (c' := c') ha with ⟨_, h2⟩ | ⟨h2, _⟩
          · rw [z] at h2; cases h2
          · exact h2
      | exc x ios =>
        rw [q3] at P
        dsimp only at P
        intro c' H' cls dd U' S' I' r'
        have rt : Ret cr c2 H0 H c' H' j2 0 := ⟨L2, S', U', R1.unt⟩
        cases q4 : wbAll bs ios e2 with
        | none => rw [q4] at P; exact P.elim
        | some e3 =>
          rw [q4] at P
          exact P (cback cr H c') H' cls dd (rt.wb (rt.rep R1 R2) V2 I' q4) (rt.back S1) (r'.mono rt.frz fun a z y => by rw [U' a y] at z; cases z)
/-! ### argument lists -/
theorem tA.bind0 {A : M (List Rv)} {f : List Rv → M Rv} {Q : VK} {t : List V → Hp → Prop} (h : PostE K B W σ c H ((A.bind f) e) Q) (R : Rep K B c σ H e)
    (hf : ∀ c' H' e' vs rs as, Rep K B c' σ H' e' → Step c H c' H' → RvsR H K c' σ H' vs rs as → PostE K B W σ c H (f rs e') Q → t vs H') : tA K B W A σ H t := by
  refine ⟨c, e, R, ?_⟩
  unfold M.bind at h
  cases q : A e with
  | ok r e' => rw [q] at h; exact fun c' H' vs as R' S rv => hf c' H' e' vs r as R' S rv h
  | exc x e' => rw [q] at h; exact h
  | stuck => rw [q] at h; exact h
theorem tE.bind0 {A : M Rv} {f : Rv → M Rv} {Q : VK} {t : V → Hp → Prop} (h : PostE K B W σ c H ((A.bind f) e) Q) (R : Rep K B c σ H e)
    (hf : ∀ c' H' e' v r, Rep K B c' σ H' e' → Step c H c' H' → RvR H K c' σ H' v r → PostE K B W σ c H (f r e') Q → t v H') : tE K B W A σ H t := by
  refine ⟨c, e, R, ?_⟩
  unfold M.bind at h
  cases q : A e with
  | ok r e' => rw [q] at h; exact fun c' H' v R' S rv => hf c' H' e' v r R' S rv h
  | exc x e' => rw [q] at h; exact h
  | stuck => rw [q] at h; exact h
def nilA : M (List Rv) := M.pure []
def consA (A : M Rv) (G : M (List Rv)) : M (List Rv) := A.bind fun r => G.bind fun rs => M.pure (r :: rs)
theorem sa_nil : SA X B W [] nilA := ⟨PA.imp pa_nil fun σ H Q ⟨c, e, R, p⟩ => p c H [] [] R Step.refl .nil⟩
theorem RvsR.cons {v : V} {r : Rv} {vs : List V} {rs : List Rv} {as : List Addr} (t : ∀ a, c a = .frz → H a ≠ none) (S0 : Step c0 H0 c H) (S : Step c H c' H') (h : RvR H0 K c σ H v r) (g : RvsR H K c' σ H' vs rs as) : ∃ as', RvsR H0 K c' σ H' (v :: vs) (r :: rs) as' := by
  have h' := h.step t S
  cases r with
  | fz d => exact ⟨as, .fz h' (g.back S0)⟩
  | own o =>
    obtain ⟨a, rfl, h2, h3, h4⟩ := h'
    obtain ⟨b, e1, k2, k3, k4⟩ := h
    cases e1
    exact ⟨a :: as, .own h2 h3 h4 (fun z => k4.some (g.fresh a z)) (g.back S0)⟩
  | slot i => exact ⟨as, .slot h' (g.back S0)⟩
theorem sa_cons {ex : Expr} {es : List Expr} {A : M Rv} {G : M (List Rv)} (ha : SE X B W ex A) (hr : SA X B W es G) (hs : starEach (ex :: es) X.env = (false, eval ex X.env) :: starEach es X.env := by rfl) : SA X B W (ex :: es) (consA A G) :=
  ⟨PA.imp (pa_cons ha.pe hr.pa hs) fun σ H Q ⟨c, e, R, p⟩ => by
    unfold consA at p
    refine ⟨c, e, R, ?_⟩
    unfold M.bind at p
    cases q : A e with
    | stuck => rw [q] at p; exact p.elim
    | exc x e1 => rw [q] at p; exact p
    | ok r e1 =>
      rw [q] at p
      dsimp only at p
      intro c1 H1 v R1 S1 v1
      refine ⟨c1, e1, R1, ?_⟩
      cases q2 : G e1 with
      | stuck => rw [q2] at p; exact p.elim
      | exc x e2 => rw [q2] at p; exact fun c2 H2 cls dd R2 S2 rx => p c2 H2 cls dd R2 (S1.trans S2) rx
      | ok rs e2 =>
        rw [q2] at p
        intro c2 H2 vs as R2 S2 v2
        obtain ⟨as', v3⟩ := RvsR.cons R1.trk S1 S2 v1 v2
        exact p c2 H2 (v :: vs) as' R2 (S1.trans S2) v3⟩

/-! ### calls of own defs -/
def callM (md : List Bool) (F : Fun) (G : M (List Rv)) : M Rv := G.bind (callF md F)
theorem se_call {k : Nat} {x : Str} {p pos : Pos} {ex : Expr} {es : List Expr} {md : List Bool} {F : Fun} {G : M (List Rv)} {f : Addr} (D : Def X.prog X.w X.K X.mg X.base k f md.length F) (hm : X.mg x = some (.ref f)) (hr : Room k X.A) (tk : Takes X W) (hg : Gl X x) (ha : SA X B W (ex :: es) G)
    (hdb : (x == ("__debug__" : Str)) = false := by decide) (he : starEach (ex :: es) X.env = (false, eval ex X.env) :: starEach es X.env := by rfl) (hpl : (backTo pos (starEach es X.env)).any (·.1) = false := by rfl) :
    SE X B W (.Call (.Name x p) (ex :: es) [] pos) (callM md F G) := by
  obtain ⟨fd, ps, hF, hb⟩ := D.ex
  exact ⟨PE.imp (pe_callS hF hr hg hm D.kp hb (fun σ => passAt tk σ) ha.pa hdb he hpl) fun σ H Q ⟨c, e, R, p⟩ => tA.bind0 p R fun c' H' e' vs rs as R' S r P => callF_ok R' S r P⟩
/-- a method's receiver -/
def isObj (C : Str) (m : Str) (r : Rv) (e : Ev) : Bool := match view r e with
  | some (.obj C' ks _) => decide (C' = C) && !ks.contains m
  | _ => false
def methM (C m : Str) (md : List Bool) (F : Fun) (A : M Rv) (G : M (List Rv)) : M Rv := A.bind fun r e => if isObj C m r e then (G.bind fun rs => callF (true :: md) F (r :: rs)) e else .stuck
def tMethS (C : Addr) (m : Str) (sp : Sp) (E : Sg → XK) (ta : TE) (t : TA) : TE := fun σ H Q => ta σ H fun x H1 => ∃ a dx fs, x = .ref a ∧ H1 a = some (.ins C dx fs) ∧ fs.lookup m = none ∧ t σ H1 fun vs H2 => sp (x :: vs) H2 Q (E σ)
theorem pe_methT {CX : CXT} {k : Nat} {C f : Addr} {fd : FuncData} {ps : List Str} {sp : Sp} {E : Sg → XK} {m : Str} {apos pos : Pos} {ex o : Expr} {es : List Expr} {ta : TE} {t : TA} {pl : Sem Bool} (he : PE X o ta) (c : Cls X.K C) (hm : Meth X.K C m f) (F : FnOk X.prog X.w X.K X.mg X.base CX k f fd ps sp) (hr : Room k X.A) (hb : Binds X.K fd ps []) (hx : ∀ σ, PassesAt CX X σ (E σ)) (ha : PA X (ex :: es) t)
    (hst : starEach (ex :: es) X.env = (false, eval ex X.env) :: starEach es X.env := by rfl) (hpl : (backTo pos (starEach es X.env)).any (·.1) = false := by rfl)
    (ht : eval (.Call (.Attribute o m apos) (ex :: es) [] pos) X.env = (do
      let ov ← eval o X.env
      standAt apos.atName
      let (f, first) ← holding [ov] (getMethod ov m pl)
      callWith pos f first (backTo pos (starEach (ex :: es) X.env)) (backToKw pos (keywordEach [] X.env))) := by rfl) :
    PE X (.Call (.Attribute o m apos) (ex :: es) [] pos) (tMethS C m sp E ta t) := by
  refine ⟨fun pins s σ H Q I h => ?_⟩
  refine PySem.W.methodCall_KW (pl := pl) (thn (he.run pins s σ H _ I h) fun u s1 ⟨x, H1, I1, rx, a, dx, fs, ex, ea, l, q⟩ => ?_) ht
  subst ex
  obtain rfl : u = Value.ref a := rx
  refine getmeth_ok I1 ea c hm l ?_
  refine PySem.W.callWith_K (first := [.ref a]) (h₀ := X.base) I.ok.mod.kin hm.kp (thn (ha.run pos pins s1 σ H1 _ I1 q) fun us s2 ⟨vs, H2, I2, r, q2⟩ => ⟨I2.kIn, ?_⟩) hst hpl
  exact run_fnS (us := .ref a :: us) (vs := .ref a :: vs) F hr hb (hx σ) I2 (.cons rfl r) q2
theorem pe_methT0 {CX : CXT} {k : Nat} {C f : Addr} {fd : FuncData} {ps : List Str} {sp : Sp} {E : Sg → XK} {m : Str} {apos pos : Pos} {o : Expr} {ta : TE} {pl : Sem Bool} (he : PE X o ta) (c : Cls X.K C) (hm : Meth X.K C m f) (F : FnOk X.prog X.w X.K X.mg X.base CX k f fd ps sp) (hr : Room k X.A) (hb : Binds X.K fd ps []) (hx : ∀ σ, PassesAt CX X σ (E σ))
    (ht : eval (.Call (.Attribute o m apos) [] [] pos) X.env = (do
      let ov ← eval o X.env
      standAt apos.atName
      let (f, first) ← holding [ov] (getMethod ov m pl)
      callWith pos f first (backTo pos (starEach [] X.env)) (backToKw pos (keywordEach [] X.env))) := by rfl) :
    PE X (.Call (.Attribute o m apos) [] [] pos) (tMethS C m sp E ta tNil) := by
  refine ⟨fun pins s σ H Q I h => ?_⟩
  refine PySem.W.methodCall_KW (pl := pl) (thn (he.run pins s σ H _ I h) fun u s1 ⟨x, H1, I1, rx, a, dx, fs, ex, ea, l, q⟩ => ?_) ht
  subst ex
  obtain rfl : u = Value.ref a := rx
  refine getmeth_ok I1 ea c hm l ?_
  exact PySem.W.callWith_K0 (first := [.ref a]) I1.kIn hm.kp (run_fnS (us := [.ref a]) (vs := [.ref a]) F hr hb (hx σ) I1 (.cons rfl .nil) q)
theorem lookup_no {α : Type} {m : Str} : ∀ fs : List (Str × α), m ∉ fs.map (·.1) → fs.lookup m = none
  | [], _ => rfl
  | (k, v) :: fs, h => by
    simp only [List.map_cons, List.mem_cons, not_or] at h
    rw [List.lookup_cons]
    have n : (m == k) = false := by simpa using h.1
    rw [n]
    exact lookup_no fs h.2
theorem isObj_ok {C m : Str} {v : V} {r : Rv} (R : Rep K B c σ H e) (h : RvR H0 K c σ H v r) (w : isObj C m r e = true) : ∃ a dx fs, v = .ref a ∧ H a = some (.ins (He.ga K C) dx fs) ∧ fs.lookup m = none := by
  unfold isObj at w
  split at w
  · rename_i C' ks ds q
    simp at w
    obtain ⟨rfl, hk⟩ := w
    obtain ⟨a, dx, fs, e1, e2, e3, e4⟩ := (view_ok R h q).obj
    refine ⟨a, dx, fs, e1, e2, lookup_no fs (by rw [e3]; simpa using hk)⟩
  · cases w
theorem methF_ok {C m : Str} {md : List Bool} {F : Fun} {A : M Rv} {G : M (List Rv)} {Q : VK} (h : tE X.K B W (methM C m md F A G) σ H Q) :
    tMethS (He.ga X.K C) m (spOf X.K (md.length + 1) F) (WE W) (tE X.K B W A) (tA X.K B W G) σ H Q := by
  obtain ⟨c, e, R, p⟩ := h
  refine tE.bind0 p R fun c1 H1 e1 v1 r1 R1 S1 q1 p1 => ?_
  split at p1
  · rename_i hi
    obtain ⟨a, dx, fs, g1, g2, g3⟩ := isObj_ok R1 q1 hi
    refine ⟨a, dx, fs, g1, g2, g3, ?_⟩
    unfold M.bind at p1
    refine ⟨c1, e1, R1, ?_⟩
    cases q : G e1 with
    | stuck => rw [q] at p1; exact p1.elim
    | exc x e2 => rw [q] at p1; exact fun c2 H2 cls dd R2 S2 rx => p1 c2 H2 cls dd R2 (S1.trans S2) rx
    | ok rs e2 =>
      rw [q] at p1
      intro c2 H2 vs as R2 S2 v2
      obtain ⟨as', v3⟩ := RvsR.cons R1.trk S1 S2 q1 v2
      exact callF_ok R2 (S1.trans S2) v3 p1
  · exact p1.elim
theorem se_meth {k : Nat} {C m : Str} {apos pos : Pos} {o ex : Expr} {es : List Expr} {md : List Bool} {F : Fun} {A : M Rv} {G : M (List Rv)} (D : Def X.prog X.w X.K X.mg X.base k (He.ma X.K (He.ga X.K C) m) (md.length + 1) F) (hm : Meth X.K (He.ga X.K C) m (He.ma X.K (He.ga X.K C) m)) (cl : Cls X.K (He.ga X.K C)) (hr : Room k X.A) (tk : Takes X W) (ho : SE X B W o A) (ha : SA X B W (ex :: es) G) {pl : Sem Bool}
    (hst : starEach (ex :: es) X.env = (false, eval ex X.env) :: starEach es X.env := by rfl) (hpl : (backTo pos (starEach es X.env)).any (·.1) = false := by rfl)
    (ht : eval (.Call (.Attribute o m apos) (ex :: es) [] pos) X.env = (do
      let ov ← eval o X.env
      standAt apos.atName
      let (f, first) ← holding [ov] (getMethod ov m pl)
      callWith pos f first (backTo pos (starEach (ex :: es) X.env)) (backToKw pos (keywordEach [] X.env))) := by rfl) :
    SE X B W (.Call (.Attribute o m apos) (ex :: es) [] pos) (methM C m md F A G) := by
  obtain ⟨fd, ps, hF, hb⟩ := D.ex
  exact ⟨PE.imp (pe_methT (pl := pl) ho.pe cl hm hF hr hb (fun σ => passAt tk σ) ha.pa hst hpl ht) fun σ H Q h => methF_ok h⟩
theorem se_meth0 {k : Nat} {C m : Str} {apos pos : Pos} {o : Expr} {F : Fun} {A : M Rv} (D : Def X.prog X.w X.K X.mg X.base k (He.ma X.K (He.ga X.K C) m) 1 F) (hm : Meth X.K (He.ga X.K C) m (He.ma X.K (He.ga X.K C) m)) (cl : Cls X.K (He.ga X.K C)) (hr : Room k X.A) (tk : Takes X W) (ho : SE X B W o A) {pl : Sem Bool}
    (ht : eval (.Call (.Attribute o m apos) [] [] pos) X.env = (do
      let ov ← eval o X.env
      standAt apos.atName
      let (f, first) ← holding [ov] (getMethod ov m pl)
      callWith pos f first (backTo pos (starEach [] X.env)) (backToKw pos (keywordEach [] X.env))) := by rfl) :
    SE X B W (.Call (.Attribute o m apos) [] [] pos) (methM C m [] F A nilA) := by
  obtain ⟨fd, ps, hF, hb⟩ := D.ex
  refine ⟨PE.imp (pe_methT0 (pl := pl) ho.pe cl hm hF hr hb (fun σ => passAt tk σ) ht) fun σ H Q h => ?_⟩
  have h2 := methF_ok (md := []) h
  obtain ⟨c, e, R, p⟩ := h2
  refine ⟨c, e, R, ?_⟩
  cases q : A e with
  | stuck => rw [q] at p; exact p
  | exc x e' => rw [q] at p; exact p
  | ok r e' =>
    rw [q] at p
    intro c' H' v R' S' rv
    obtain ⟨a, dx, fs, g1, g2, g3, c3, e3, R3, g4⟩ := p c' H' v R' S' rv
    exact ⟨a, dx, fs, g1, g2, g3, g4 c3 H' [] [] R3 Step.refl .nil⟩
end
end Sc

set_option Elab.async false
set_option linter.all false
set_option autoImplicit false
set_option maxRecDepth 100000
set_option maxHeartbeats 4000000
namespace Sc
open PySem PySem.Spec PyProof.Rows L2
section
open PySem.SeqAt
open PySem.AutoSeq1 (wpAny_loadPart')
open PySem.MeetsSeq PySem.MeetsSeq2 PySem.MeetsSeq3
theorem ext_list_tuple (l : Addr) (items : Array Value) (n : Nat) (b : Addr) (items2 : Array Value) (n2 : Nat) (dd : Option Addr) (sl : Array (Option Value)) (hs0 : ¬(!items.isEmpty && Builtin.List.listTooLong (items.size + items2.size)) = true) (hs1 : items.size ≤ sizeLine) (hs2 : items.size + items2.size ≤ sizeLine + 1) :
    Meets (Builtin.«list.extend» ⟨[.ref l, .ref b], []⟩) (fun _ R s => s.heap.get? l = some { cls := .type "list", dict := none, data := .seq items n, slots := #[] } ∧ s.heap.get? b = some { cls := .type "tuple", dict := dd, data := .seq items2 n2, slots := sl } ∧ R (.ok (.ret Value.none)) { s with heap := s.heap.update l (Obj.mapSeq fun x => x ++ items2), toks := s.toks }) :=
  .of_wp fun prog w A R s h => by
    obtain ⟨hp, g, d, tk, os⟩ := s; obtain ⟨hl, hb, h⟩ := h; have f1 := AutoSeq1.idx_int; have f2 := AutoSeq1.sub_tuple_tuple; have f3 := AutoSeq1.sub_list_list; have f4 := AutoSeq1.sub_tuple_list; have f5 := AutoSeq1.sub_list_tuple;
    have hz' : (items ++ items2).size ≤ sizeLine + 1 := by rw [Array.size_append]; exact hs2
    wp_walk using (wpAny_updateSeq hl rfl (hz := hs1) (_hz' := hz')), wpAny_loadPart' hl, wpAny_loadPart' hb; exact ⟨_, rfl, h⟩
end
section
variable {X : Cx} {K : PySem.W.Frag} {B : Bs} {W : WX} {σ : Sg} {c c' c2 c0 : CM} {H H' H2 Hs H0 : Hp} {e e' : Ev}
def rExtT (K : PySem.W.Frag) : V → List V → Hp → VK → Prop := fun x vs H Q => ∃ l b xs zs, x = .ref l ∧ vs = [.ref b] ∧ H l = some (.lst xs) ∧ SqT K H b zs ∧ xs.length + zs.length ≤ sizeLine ∧ Q .non (upd H l (.lst (xs ++ zs)))
theorem mt_extT : MtM X "list.extend" (rExtT X.K) := by
  intro pins s σ H x vs v us Q I rx rv h
  obtain ⟨l, b, xs, zs, rfl, rfl, hH, hB, hz, q⟩ := h
  cases rx
  obtain ⟨u, rfl, ru⟩ := rv.one
  cases ru
  obtain ⟨z, its, n, r, hl, e⟩ := I.lstM hH
  obtain ⟨its2, r2, ⟨o2, e2, c2, n2, d2⟩, hl2⟩ := I.tuple hB
  have hl3 := r2.length
  have hsz : its.toArray.size + its2.toArray.size ≤ sizeLine := by rw [List.size_toArray, List.size_toArray]; omega
  have hlong : ¬ (!its.toArray.isEmpty && Builtin.List.listTooLong (its.toArray.size + its2.toArray.size)) = true := by
    rw [notLongL hsz, Bool.and_false]
    exact Bool.false_ne_true
  obtain ⟨oc, od, odt, osl⟩ := o2
  dsimp only at c2 d2
  subst c2 d2
  refine call_meets F.slot_list_extend ⟨_, e, rfl⟩ F.entry_list_extend (F.args_list_extend_2 _ _)
    (ext_list_tuple l its.toArray n b its2.toArray n2 od osl hlong (by rw [List.size_toArray]; omega) (by omega)) ⟨e, e2, ?_⟩
  refine ⟨.non, _, I.lset (its' := its ++ its2) hH e (by simp) (r.append r2) ?_, rfl, q⟩
  rw [List.length_append]
  omega
/-! ### subscripts -/
def dget : List Str → List D → Str → Option D
  | k :: ks, d :: ds, x => if k = x then some d else dget ks ds x
  | _, _, _ => none
theorem dget_ok : ∀ {kvs : List (Key × V)} {ks : List Str} {ds : List D} {x : Str} {d : D}, kvs.map (·.1) = ks.map Sum.inr → FzA K c H (kvs.map (·.2)) ds → dget ks ds x = some d → ∃ v, valV kvs (Sum.inr x) = some v ∧ Fz K c H v d
  | [], [], _, _, _, _, _, w => by simp [dget] at w
  | [], k :: ks, _, _, _, h, _, _ => by simp at h
  | p :: kvs, [], _, _, _, h, _, _ => by simp at h
  | (pk, pv) :: kvs, k :: ks, [], _, _, _, g, _ => by cases g
  | (pk, pv) :: kvs, k :: ks, d0 :: ds, x, d, h, g, w => by
    simp at h
    obtain ⟨rfl, h⟩ := h
    cases g with
    | cons g1 g2 =>
      unfold dget at w
      unfold valV
      rw [List.find?_cons]
      split at w
      · rename_i q
        cases w
        subst q
        rw [decide_eq_true rfl]
        exact ⟨pv, rfl, g1⟩
      · rename_i q
        rw [decide_eq_false (by simpa using q)]
        exact dget_ok (kvs := kvs) (ks := ks) (by simpa using h) g2 w
def rIxD : R2 := fun x y H Q => ∃ a v, x = .ref a ∧ DGet H a y (some v) ∧ Q v H
theorem ix_dict (hu : X.A.units + 1 < cLine) : IxR X rIxD := by
  intro value slice pins s σ H x y v u Q I rx ry h hs
  obtain ⟨a, w, rfl, g, q⟩ := h
  obtain rfl : v = Value.ref a := rx
  have hT := dict_typeIs I g
  unfold subscriptTail
  refine wpAny_bind ?_
  rw [getitemInPython_of_ne hT.not_modules]
  refine wpAny_bind (wpAny_specialOf hT PySem.F.slot_dict_getitem.lookup ?_)
  have fin : wpAny (model X.prog X.w) X.A (subscripted slice false (.ref a) u) (fun r s₃ => wpAny (model X.prog X.w) X.A (letTemporaryGo value (.ref a) r >>= fun _ => pure r) (EP X pins σ Q) X.xe s₃) X.xe s := by
    rw [hs]
    exact wpAny_operating (d_getItem hu I g ry fun w' s3 I3 rw' => wpAny_bind (wpAny_letTemporaryGo (wpAny_pure ⟨w, H, I3, rw', q⟩)))
  first
    | exact wpAny_pure (wpAny_bind fin)
    | exact wpAny_bind (wpAny_pure (wpAny_bind fin))
    | exact wpAny_bind fin
def rIxAll (K : PySem.W.Frag) : R2 := fun x y H Q => rIxL K x y H Q ∨ (fun x y H Q => rIxT K x y H Q ∨ (fun x y H Q => rIxS x y H Q ∨ rIxD x y H Q : R2) x y H Q : R2) x y H Q
theorem ix_all (hu : X.A.units + 1 < cLine) : IxR X (rIxAll X.K) := IxR.or ix_list (IxR.or ix_tup (IxR.or ix_str (ix_dict hu)))
def ixF : D → D → Option Rv
  | .lst ds, .int i => (atI ds i).map .fz
  | .tup ds, .int i => (atI ds i).map .fz
  | .str z, .int i => if z.length ≤ sizeLine then (atI z.cps.toList i).map fun s => .fz (.str ⟨#[s]⟩) else none
  | .scr ns, .int i => (atI ns i).map fun n => .fz (.int n)
  | .dic ks ds, .str x => (dget ks ds x).map .fz
  | _, _ => none
theorem FzA.atI {vs : List V} {ds : List D} {i : Int} {d : D} (h : FzA K c H vs ds) (w : L2.atI ds i = some d) : ∃ v, L2.atI vs i = some v ∧ Fz K c H v d := by
  unfold L2.atI at w ⊢
  rw [h.length]
  cases q : ixN ds.length i with
  | none => rw [q] at w; cases w
  | some j => rw [q] at w; exact h.getD w
theorem opf_ix : OpF X ixF (rIxAll X.K) := by
  intro c H x y a b rv Q u va vb hw hq
  unfold ixF at hw
  split at hw
  · rename_i ds i
    cases w : L2.atI ds i with
    | none => rw [w] at hw; cases hw
    | some d =>
      rw [w] at hw; cases hw
      obtain ⟨p, xs, rfl, h1, h2⟩ := va.list
      obtain ⟨v, g1, g2⟩ := h2.atI w
      exact .inl ⟨p, xs, i, v, rfl, vb.int, SqL.of h1, g1, hq c H v (Gr.refl u) g2⟩
  · rename_i ds i
    cases w : L2.atI ds i with
    | none => rw [w] at hw; cases hw
    | some d =>
      rw [w] at hw; cases hw
      obtain ⟨p, xs, rfl, h1, h2⟩ := va.tup
      obtain ⟨v, g1, g2⟩ := h2.atI w
      exact .inr (.inl ⟨p, xs, i, v, rfl, vb.int, h1, g1, hq c H v (Gr.refl u) g2⟩)
  · rename_i z i
    split at hw
    · rename_i hz
      cases w : L2.atI z.cps.toList i with
      | none => rw [w] at hw; cases hw
      | some d => rw [w] at hw; cases hw; exact .inr (.inr (.inl ⟨z, i, d, va.str, vb.int, hz, w, hq c H _ (Gr.refl u) (.str _)⟩))
    · cases hw
  · rename_i ns i
    cases w : L2.atI ns i with
    | none => rw [w] at hw; cases hw
    | some n =>
      rw [w] at hw; cases hw
      obtain ⟨p, rfl, h1⟩ := va.scr
      refine .inl ⟨p, _, i, .int n, rfl, vb.int, h1, ?_, hq c H _ (Gr.refl u) (.int n)⟩
      unfold L2.atI at w ⊢
      rw [List.length_map]
      cases q : ixN ns.length i with
      | none => rw [q] at w; cases w
      | some j => rw [q] at w; simp only [Option.bind_some] at w ⊢; rw [List.getElem?_map, w]; rfl
  · rename_i ks ds z
    cases w : dget ks ds z with
    | none => rw [w] at hw; cases hw
    | some d =>
      rw [w] at hw; cases hw
      obtain ⟨p, kvs, rfl, h1, h2, h3⟩ := va.dic
      obtain ⟨v, g1, g2⟩ := dget_ok h2 h3 w
      rw [vb.str]
      have := DGet.k (k := Sum.inr z) h1
      rw [g1] at this
      exact .inr (.inr (.inr ⟨p, v, rfl, this, hq c H v (Gr.refl u) g2⟩))
  · cases hw
theorem se_ix {a b : Expr} {pos : Pos} {A C : M Rv} (hu : X.A.units + 1 < cLine) (ha : SE X B W a A) (hb : SE X B W b C) (hs : PlainIx b := by exact fun _ _ => rfl) : SE X B W (.Subscript a b pos) (opM ixF A C) :=
  ⟨PE.imp (pe_ix (ix_all hu) ha.pe hb.pe hs) fun σ H Q h => tOp_of opf_ix h⟩
/-! ### slices -/
def vOpt : V → Option Int
  | .int i => some i
  | _ => none
structure SO (X : Cx) (B : Bs) (W : WX) (ex : Option Expr) (m : M Rv) : Prop where
  po : PO X ex (fun σ H Q => tE X.K B W m σ H fun v H1 => Q (vOpt v) H1)
theorem PO.imp {ex : Option Expr} {t t' : TO} (h : PO X ex t) (i : ∀ σ H Q, t' σ H Q → t σ H Q) : PO X ex t' := ⟨fun pins s σ H Q I q => h.run pins s σ H Q I (i σ H Q q)⟩
def intM (A : M Rv) : M Rv := A.bind fun r e => match view r e with
  | some (.int i) => .ok (.fz (.int i)) e
  | _ => .stuck
theorem so_none : SO X B W none (constM .non) := ⟨PO.imp po_none fun σ H Q ⟨c, e, R, p⟩ => p c H .non R Step.refl .non⟩
theorem so_some {ex : Expr} {A : M Rv} (h : SE X B W ex A) : SO X B W (some ex) (intM A) := ⟨PO.imp (po_some h.pe) fun σ H Q ⟨c, e, R, p⟩ => tE.bind p R fun c1 H1 e1 v1 r1 R1 S1 q1 p1 => by
  split at p1
  · rename_i i q
    have := (view_ok R1 q1 q).int
    exact ⟨i, this, p1 c1 H1 (.int i) R1 Step.refl (.int i)⟩
  · exact p1.elim⟩
def cutG {α : Type} (xs : List α) (lo hi : Option Int) : List α := (xs.drop (HT.sIx xs.length 0 lo)).take (HT.sIx xs.length xs.length hi - HT.sIx xs.length 0 lo)
theorem FzA.cut {vs : List V} {ds : List D} (h : FzA K c H vs ds) (lo hi : Option Int) : FzA K c H (cutV vs lo hi) (cutG ds lo hi) := by
  unfold cutV cutG
  rw [h.length]
  exact (h.drop _).take _
def slF : D → Option Int → Option Int → Option Rv
  | .str z, lo, hi => if z.length ≤ sizeLine then some (.fz (.str (cutS z lo hi))) else none
  | .lst ds, lo, hi => some (.own (.lst (cutG ds lo hi)))
  | .tup ds, lo, hi => some (.fz (.tup (cutG ds lo hi)))
  | _, _, _ => none
def dOpt : Rv → Option Int
  | .fz (.int i) => some i
  | _ => none
theorem vOpt_d {v : V} {r : Rv} (h : RvR H0 K c σ H v r) (w : ∀ i, r ≠ .slot i) (w2 : ∀ o, r ≠ .own o) : vOpt v = dOpt r := by
  cases r with
  | fz d => cases h <;> rfl
  | own o => exact absurd rfl (w2 o)
  | slot i => exact absurd rfl (w i)
def sliceM (A L U : M Rv) : M Rv := A.bind fun ra => L.bind fun rl => U.bind fun ru => fun e => match view ra e, rl, ru with
  | some d, .fz l, .fz u => match slF d (dOpt (.fz l)) (dOpt (.fz u)) with
    | some r => .ok r e
    | none => .stuck
  | _, _, _ => .stuck
theorem se_slice {a : Expr} {lo hi : Option Expr} {p2 pos : Pos} {A L U : M Rv} (ha : SE X B W a A) (hl : SO X B W lo L) (hu : SO X B W hi U) : SE X B W (.Subscript a (.Slice lo hi none p2) pos) (sliceM A L U) :=
  ⟨PE.imp (pe_slice (SlR.or sl_str (SlR.or sl_list sl_tupA)) ha.pe hl.po hu.po) fun σ H Q ⟨c, e, R, p⟩ =>
    tE.bind p R fun c1 H1 e1 v1 r1 R1 S1 q1 p1 => tE.bind p1 R1 fun c2 H2 e2 v2 r2 R2 S2 q2 p2 => tE.bind p2 R2 fun c3 H3 e3 v3 r3 R3 S3 q3 p3 => by
      have q1' := (q1.step R1.trk S2).step R2.trk S3
      have q2' := q2.step R2.trk S3
      split at p3
      · rename_i d l u w
        have e2 : vOpt v2 = dOpt (.fz l) := vOpt_d q2' (by simp) (by simp)
        have e3' : vOpt v3 = dOpt (.fz u) := vOpt_d q3 (by simp) (by simp)
        rw [e2, e3']
        generalize dOpt (.fz l) = lo at *
        generalize dOpt (.fz u) = hi at *
        have vw := view_ok R3 q1' w
        cases w2 : slF d lo hi with
        | none => rw [w2] at p3; exact p3.elim
        | some rv =>
          rw [w2] at p3
          have fin : ∀ c' H' v, Gr c3 H3 c' H' → RvN H3 X.K c' H' v rv → Q v H' := fun c' H' v g n => p3 c' H' v (R3.grow g) g.step n.rvr
          unfold slF at w2
          split at w2
          · split at w2
            · cases w2
              rename_i hz
              exact .inl ⟨_, vw.str, hz, fin c3 H3 _ (Gr.refl R3.unt) (.str _)⟩
            · cases w2
          · cases w2
            obtain ⟨p, xs, rfl, h1, h2⟩ := vw.list
            refine .inr (.inl ⟨p, xs, rfl, SqL.of h1, fun z hz => ?_⟩)
            obtain ⟨G, N⟩ := new_lst R3.unt hz (h2.cut lo hi)
            exact fin _ _ _ G N
          · cases w2
            obtain ⟨p, xs, rfl, h1, h2⟩ := vw.tup
            rename_i ds
            refine .inr (.inr ⟨p, xs, rfl, h1, fun ⟨z1, z2⟩ => ?_, fun _ z hz => ?_⟩)
            · refine fin c3 H3 _ (Gr.refl R3.unt) ?_
              have : cutG ds lo hi = ds := by
                unfold cutG
                rw [← h2.length, z1, z2, List.drop_zero, Nat.sub_zero, h2.length, List.take_length]
              show Fz X.K c3 H3 (.ref p) (.tup (cutG ds lo hi))
              rw [this]
              cases vw with
              | fz h => exact h
              | at_ a o hv hd h => cases o <;> cases hd
            · obtain ⟨G, N⟩ := new_tup R3.unt hz (h2.cut lo hi)
              exact fin _ _ _ G N
          · cases w2
      · exact p3.elim⟩
/-! ### displays -/
def tupM (G : M (List Rv)) : M Rv := G.bind fun rs e => match freezeAll rs e with
  | some (ds, e') => if ds.length ≤ sizeLine then .ok (.fz (.tup ds)) e' else .stuck
  | none => .stuck
def lstM (G : M (List Rv)) : M Rv := G.bind fun rs e => match freezeAll rs e with
  | some (ds, e') => if ds.length ≤ sizeLine then .ok (.own (.lst ds)) e' else .stuck
  | none => .stuck
theorem se_tup {es : List Expr} {x1 : Nat} {pos : Pos} {G : M (List Rv)} (h : SA X B W es G) : SE X B W (.Tuple es x1 pos) (tupM G) :=
  ⟨PE.imp (pe_tup h.pa) fun σ H Q ⟨c, e, R, p⟩ => tA.bind0 p R fun c1 H1 e1 vs rs as R1 S1 V1 p1 => by
    cases w : freezeAll rs e1 with
    | none => rw [w] at p1; exact p1.elim
    | some pr =>
      obtain ⟨ds, e2⟩ := pr
      rw [w] at p1
      dsimp only at p1
      obtain ⟨c2, R2, S2, F2, f2⟩ := freezeAll_ok R1 S1 V1 w
      split at p1
      · rename_i hz
        refine ⟨by rw [F2.length]; exact hz, fun q hq => ?_⟩
        obtain ⟨G, N⟩ := new_tup R2.unt hq F2
        exact p1 _ _ _ (R2.grow G) (S2.trans G.step) N
      · exact p1.elim⟩
theorem se_lst {es : List Expr} {pos : Pos} {G : M (List Rv)} (h : SA X B W es G) : SE X B W (.List es pos) (lstM G) :=
  ⟨PE.imp (pe_lst h.pa) fun σ H Q ⟨c, e, R, p⟩ => tA.bind0 p R fun c1 H1 e1 vs rs as R1 S1 V1 p1 => by
    cases w : freezeAll rs e1 with
    | none => rw [w] at p1; exact p1.elim
    | some pr =>
      obtain ⟨ds, e2⟩ := pr
      rw [w] at p1
      dsimp only at p1
      obtain ⟨c2, R2, S2, F2, f2⟩ := freezeAll_ok R1 S1 V1 w
      split at p1
      · rename_i hz
        refine ⟨by rw [F2.length]; exact hz, fun q hq => ?_⟩
        obtain ⟨G, a, ea, n1, n2, n3⟩ := new_lst R2.unt hq F2
        cases ea
        refine p1 _ _ _ (R2.grow G) (S2.trans G.step) ⟨_, rfl, n1, ?_, n3⟩
        exact Classical.byContradiction fun z => (S2.at_ _ z).1 hq
      · exact p1.elim⟩
/-! ### fields -/
def fldM (C f : Str) (A : M Rv) : M Rv := A.bind fun r e => match view r e with
  | some (.obj C' ks ds) => if C' = C then match dget ks ds f with
      | some d => .ok (.fz d) e
      | none => .stuck
    else .stuck
  | _ => .stuck
theorem fget_ok : ∀ {fs : List (Str × V)} {ks : List Str} {ds : List D} {x : Str} {d : D}, fs.map (·.1) = ks → FzA K c H (fs.map (·.2)) ds → dget ks ds x = some d → ∃ v, fs.lookup x = some v ∧ Fz K c H v d
  | [], _, _, _, _, rfl, _, w => by simp [dget] at w
  | (pk, pv) :: fs, _, [], _, _, rfl, g, _ => by cases g
  | (pk, pv) :: fs, _, d0 :: ds, x, d, rfl, g, w => by
    cases g with
    | cons g1 g2 =>
      simp only [List.map_cons, dget] at w
      rw [List.lookup_cons]
      split at w
      · rename_i q
        cases w
        subst q
        simp
        exact g1
      · rename_i q
        have : (x == pk) = false := by simpa using fun z : x = pk => q z.symm
        rw [this]
        exact fget_ok rfl g2 w
theorem se_fld {ex : Expr} {pos : Pos} {A : M Rv} {C f : Str} (h : SE X B W ex A) (cl : Cls X.K (He.ga X.K C)) (na : NoAttr X.K (He.ga X.K C) f) (hb : attributeBase ex f X.env (eval ex X.env) = eval ex X.env := by rfl) : SE X B W (.Attribute ex f pos) (fldM C f A) :=
  ⟨PE.imp (pe_fld h.pe hb) fun σ H Q ⟨c, e, R, p⟩ => tE.bind p R fun c1 H1 e1 v1 r1 R1 S1 q1 p1 => by
    split at p1
    · rename_i C' ks ds w
      split at p1
      · rename_i hc
        subst hc
        obtain ⟨a, dx, fs, rfl, h1, h2, h3⟩ := (view_ok R1 q1 w).obj
        cases w2 : dget ks ds f with
        | none => rw [w2] at p1; exact p1.elim
        | some d =>
          rw [w2] at p1
          obtain ⟨v, g1, g2⟩ := fget_ok h2 h3 w2
          exact ⟨a, _, dx, fs, v, rfl, h1, cl, na, g1, p1 c1 H1 v R1 Step.refl g2⟩
      · exact p1.elim
    · exact p1.elim⟩
/-! ### a new object -/
def newF (C : Str) (md : List Bool) (F : Fun) (rs : List Rv) : M Rv := fun e => match prep md rs e with
  | some (rs', e1) => match lend md rs' e1 with
    | some (as, bs, e2) => match F (.io (.obj C [] []) :: as) with
      | .ret (.fz .non) (.io o :: ios) => match wbAll bs ios e2 with
        | some e3 => .ok (.own o) e3
        | none => .stuck
      | _ => .stuck
    | none => .stuck
  | none => .stuck
def newM (C : Str) (md : List Bool) (F : Fun) (G : M (List Rv)) : M Rv := G.bind (newF C md F)
theorem se_new {k : Nat} {C x : Str} {p pos : Pos} {ex : Expr} {es : List Expr} {md : List Bool} {F : Fun} {G : M (List Rv)} {f : Addr} (D : Def X.prog X.w X.K X.mg X.base k f (md.length + 1) F) (mk : Mk X.K (He.ga X.K C) f) (hm : X.mg x = some (.ref (He.ga X.K C))) (hr : Room (k + 1) X.A) (hg : Gl X x) (ha : SA X B W (ex :: es) G)
    (hdb : (x == ("__debug__" : Str)) = false := by decide) (he : starEach (ex :: es) X.env = (false, eval ex X.env) :: starEach es X.env := by rfl) (hpl : (backTo pos (starEach es X.env)).any (·.1) = false := by rfl) :
    SE X B W (.Call (.Name x p) (ex :: es) [] pos) (newM C md F G) := by
  obtain ⟨fd, ps, hF, hb⟩ := D.ex
  refine ⟨PE.imp (pe_make mk hF hr hg hm hb .nil passL ha.pa hdb he hpl) fun σ H Q ⟨c, e, R, p⟩ => tA.bind0 p R fun c0 H0 e0 vs rs as Rp S h P => ?_⟩
  intro x dx hx hdx hne
  rw [List.append_nil]
  unfold newF at P
  cases q1 : prep md rs e0 with
  | none => rw [q1] at P; exact P.elim
  | some p1 =>
    obtain ⟨rs1, e1⟩ := p1
    rw [q1] at P
    dsimp only at P
    cases q2 : lend md rs1 e1 with
    | none => rw [q2] at P; exact P.elim
    | some p2 =>
      obtain ⟨args, bs, e2⟩ := p2
      rw [q2] at P
      dsimp only at P
      obtain ⟨cp, as', R1, S1, V1, A1, f1, o1⟩ := prep_ok Rp S h q1
      have R1 := R1.unl
      have S1 := S1.unl
      have V1 := V1.unl
      generalize unl cp = cq at *
      have L0 : Lnt H (unl cq) (unl cq) H0 0 := ⟨fun a => .inl rfl, fun a k => unl_no a k, fun a k z => absurd z (unl_no a k)⟩
      have R1 := R1.unl
      have S1 := S1.unl
      have V1 := V1.unl
      generalize unl cq = cr at *
      obtain ⟨c2, j2, R2, L2, V2, f2, k2, w2⟩ := lend_ok R1 L0 V1 q2
      have hlen : ∀ a k, c2 a = .lent k → vs[k]? = some (.ref a) := fun a k q => by
        rcases w2 a _ q with z | ⟨i, z1, z2⟩
        · exact absurd z (fun z => by rcases L0.or_ a with y | ⟨k, y, _⟩; exact L0.no a _ (y ▸ z); omega)
        · rw [z2, Nat.zero_add]; exact z1
      generalize hH1 : upd (upd H0 dx (.own x)) x (.ins (He.ga X.K C) dx []) = H1
      have ex1 : H1 x = some (.ins (He.ga X.K C) dx []) := by rw [← hH1, upd_same]
      have old : ∀ a, H0 a ≠ none → H1 a = H0 a := fun a ha => by
        have n1 : a ≠ x := fun z => ha (by rw [z]; exact hx)
        have n2 : a ≠ dx := fun z => ha (by rw [z]; exact hdx)
        rw [← hH1, upd_ne n1, upd_ne n2]
      have kp : ∀ a, H1 a = none → H0 a = none := fun a ha => Classical.byContradiction fun z => z (by rw [← old a z]; exact ha)
      have e2x : cdef c2 1 x = .oth := by simp [cdef, R2.unt x hx]
      have gw : Grow (cdef c2 1) H0 (cset (cdef c2 1) x (.io 0)) H1 := fun a ha => by
        have n1 : a ≠ x := fun z => ha (by rw [z]; exact hx)
        exact ⟨cset_ne n1, old a ha⟩
      have AR := V2.args (t := 1)
      have AR1 : ArgsR X.K (cset (cdef c2 1) x (.io 0)) H1 1 vs args := by
        have : ∀ {j vs args}, ArgsR X.K (cdef c2 1) H0 j vs args → ArgsR X.K (cset (cdef c2 1) x (.io 0)) H1 j vs args := by
          intro j vs args h
          have fr : Frz (cdef c2 1) H0 (cset (cdef c2 1) x (.io 0)) H1 := fun a ha => by
            have ht : H0 a ≠ none := R2.trk a (by unfold cdef at ha; cases z : c2 a <;> rw [z] at ha <;> first | rfl | cases ha)
            exact ⟨(gw a ht).1.trans ha, fun _ => (gw a ht).2⟩
          induction h with
          | nil => exact .nil
          | fz a _ ih => exact .fz (a.mono fr) ih
          | io h1 h2 _ ih => exact .io ((gw _ h2.some).1.trans h1) (h2.mono fr (gw _ h2.some).2) ih
        have := this AR
        rwa [Nat.zero_add] at this
      refine ⟨by simp [V2.len, lend_lens q2], cset (cdef c2 1) x (.io 0),   .io (.obj C [] []) :: args, fun a ha => ?_, fun a i => ?_, fun a j h => ?_, .io cset_same ⟨dx, [], ex1, rfl, .nil⟩ AR1, ?_⟩
      · have n1 : a ≠ x := fun z => by rw [z, ex1] at ha; cases ha
        rw [cset_ne n1]
        simp [cdef, R2.unt a (kp a ha)]
      · by_cases z : a = x
        · rw [z, cset_same]; simp
        · rw [cset_ne z]; unfold cdef; cases c2 a <;> simp
      · by_cases z : a = x
        · subst z; rw [cset_same] at h; cases h; rfl
        · rw [cset_ne z] at h
          unfold cdef at h
          cases q : c2 a <;> rw [q] at h <;> cases h
          exact hlen a _ q
      · cases q3 : F (.io (.obj C [] []) :: args) with
        | stuck => rw [q3] at P; exact P.elim
        | exc x ios => rw [q3] at P; exact P.elim
        | ret r ios =>
          rw [q3] at P
          split at P
          · rename_i o ios' hq
            injection hq with hq1 hq2
            subst hq1 hq2
            intro c' H' v U' S' I' r'
            cases I' with
            | io i1 i2 i3 =>
              have rv : v = .non := by cases r'; rfl
              refine ⟨rv, ?_⟩
              have rt : Ret cr c2 H H0 c' H' j2 1 := ⟨L2, gw.step.trans S', U', R1.unt⟩
              cases q4 : wbAll bs ios' e2 with
              | none => rw [q4] at P; exact P.elim
              | some e3 =>
                rw [q4] at P
                refine P (cback cr H0 c') H' _ (rt.wb (rt.rep R1 R2) V2 (by simpa using i3) q4) (rt.back S1) ⟨x, rfl, ?_, ?_, i2.mono rt.frz rfl⟩
                · rcases cback_new (cp := cr) (c' := c') hx with ⟨_, h2⟩ | ⟨h2, _⟩
                  · rw [i1] at h2; cases h2
                  · exact h2
                · exact Classical.byContradiction fun z => (S1.at_ x z).1 hx
          · exact P.elim
end
end Sc

set_option Elab.async false
set_option linter.all false
set_option autoImplicit false
set_option maxRecDepth 100000
set_option maxHeartbeats 4000000
namespace Sc
open PySem PySem.Spec PyProof.Rows L2
section
variable {X : Cx} {K : PySem.W.Frag} {B : Bs} {W : WX} {σ : Sg} {c c' c2 c0 : CM} {H H' H2 Hs H0 : Hp} {e e' : Ev}
/-! ### builtins by their arguments' views -/
def viewAll : List Rv → Ev → Option (List D)
  | [], _ => some []
  | r :: rs, e => match view r e with
    | some d => match viewAll rs e with
      | some ds => some (d :: ds)
      | none => none
    | none => none
inductive VwA (K : PySem.W.Frag) (c : CM) (H : Hp) : List V → List D → Prop
  | nil : VwA K c H [] []
  | cons {v d vs ds} : Vw K c H v d → VwA K c H vs ds → VwA K c H (v :: vs) (d :: ds)
theorem viewAll_ok {vs : List V} {rs : List Rv} {as : List Addr} {ds : List D} (R : Rep K B c σ H e) (h : RvsR Hs K c σ H vs rs as) : viewAll rs e = some ds → VwA K c H vs ds := by
  induction h generalizing ds with
  | nil => intro w; simp [viewAll] at w; subst w; exact .nil
  | fz a hr ih =>
    rename_i v vs d rs as
    intro w
    simp only [viewAll, view] at w
    cases q : viewAll rs e with
    | none => rw [q] at w; cases w
    | some p => rw [q] at w; cases w; exact .cons (.fz a) (ih q)
  | own h1 h2 h3 h4 hr ih =>
    rename_i a o vs rs as
    intro w
    simp only [viewAll, view] at w
    cases q : viewAll rs e with
    | none => rw [q] at w; cases w
    | some p => rw [q] at w; cases w; exact .cons (.at_ a o rfl rfl h3) (ih q)
  | slot a hr ih =>
    rename_i v vs i rs as
    intro w
    simp only [viewAll] at w
    cases q1 : view (.slot i) e with
    | none => rw [q1] at w; cases w
    | some d =>
      rw [q1] at w
      dsimp only at w
      cases q : viewAll rs e with
      | none => rw [q] at w; cases w
      | some p => rw [q] at w; cases w; exact .cons (view_ok (Hs := Hs) R (r := .slot i) a q1) (ih q)
def bltM (f : List D → Option Rv) (G : M (List Rv)) : M Rv := G.bind fun rs e => match viewAll rs e with
  | some ds => match f ds with
    | some r => .ok r e
    | none => .stuck
  | none => .stuck
def BF (X : Cx) (f : List D → Option Rv) (r : List V → Hp → VK → Prop) : Prop := ∀ (c : CM) (H : Hp) (vs : List V) (ds : List D) (rv : Rv) (Q : VK), Unt c H → VwA X.K c H vs ds → f ds = some rv →
  (∀ c' H' v, Gr c H c' H' → RvN H X.K c' H' v rv → Q v H') → r vs H Q
theorem tCB_of {r : List V → Hp → VK → Prop} {f : List D → Option Rv} {G : M (List Rv)} {Q : VK} (hf : BF X f r) (h : tE X.K B W (bltM f G) σ H Q) : tCB r (tA X.K B W G) σ H Q := by
  obtain ⟨c, e, R, p⟩ := h
  refine tA.bind p R fun c1 H1 e1 vs rs as R1 S1 V1 p1 => ?_
  cases w : viewAll rs e1 with
  | none => rw [w] at p1; exact p1.elim
  | some ds =>
    rw [w] at p1
    dsimp only at p1
    cases w2 : f ds with
    | none => rw [w2] at p1; exact p1.elim
    | some rv =>
      rw [w2] at p1
      exact hf c1 H1 vs ds rv Q R1.unt (viewAll_ok R1 V1 w) w2 fun c' H' v g n => p1 c' H' v (R1.grow g) g.step n.rvr
variable {x : Str} {p pos : Pos} {ex : Expr} {es : List Expr} {G : M (List Rv)} {id T : String} {f : List D → Option Rv} {r : List V → Hp → VK → Prop}
theorem se_blt (hc : CallR X (.builtin id) r) (hf : BF X f r) (hg : Gl X x) (hm : X.mg x = none) (hv : bootBuiltins x = some (.builtin id)) (ha : SA X B W (ex :: es) G) (hn : x ≠ "__name__" := by decide) (hdb : (x == ("__debug__" : Str)) = false := by decide)
    (he : starEach (ex :: es) X.env = (false, eval ex X.env) :: starEach es X.env := by rfl) (hpl : (backTo pos (starEach es X.env)).any (·.1) = false := by rfl) : SE X B W (.Call (.Name x p) (ex :: es) [] pos) (bltM f G) :=
  ⟨PE.imp (pe_callB hc hg hm hv ha.pa hn hdb he hpl) fun σ H Q h => tCB_of hf h⟩
theorem se_bty (hc : CallR X (.type T) r) (hf : BF X f r) (hg : Gl X x) (hm : X.mg x = none) (hv : bootBuiltins x = some (.type T)) (ha : SA X B W (ex :: es) G) (hn : x ≠ "__name__" := by decide) (hdb : (x == ("__debug__" : Str)) = false := by decide)
    (he : starEach (ex :: es) X.env = (false, eval ex X.env) :: starEach es X.env := by rfl) (hpl : (backTo pos (starEach es X.env)).any (·.1) = false := by rfl) : SE X B W (.Call (.Name x p) (ex :: es) [] pos) (bltM f G) :=
  ⟨PE.imp (pe_callTy hc hg hm hv ha.pa hn hdb he hpl) fun σ H Q h => tCB_of hf h⟩
/-! len -/
def lenF : List D → Option Rv
  | [.str z] => if z.length ≤ sizeLine then some (.fz (.int z.length)) else none
  | [.lst ds] => some (.fz (.int ds.length))
  | [.tup ds] => some (.fz (.int ds.length))
  | [.scr ns] => some (.fz (.int ns.length))
  | [.dic ks ds] => some (.fz (.int ks.length))
  | _ => none
def rLenAll (K : PySem.W.Frag) : List V → Hp → VK → Prop := fun xs H Q => (∃ x n, xs = [x] ∧ LenV K x H n ∧ Q (.int n) H) ∨ (∃ a kvs, xs = [V.ref a] ∧ H a = some (.dK kvs) ∧ Q (.int kvs.length) H)
theorem call_lenAll : CallR X (.builtin "len") (rLenAll X.K) := CallR.or call_len call_lenD
theorem bf_len : BF X lenF (rLenAll X.K) := by
  intro c H vs ds rv Q u h w hq
  unfold lenF at w
  split at w
  · split at w
    · cases w
      rename_i z hz
      cases h with
      | cons h1 h2 => cases h2; rw [h1.str]; exact .inl ⟨_, _, rfl, ⟨hz, rfl⟩, hq c H _ (Gr.refl u) (.int _)⟩
    · cases w
  · cases w
    cases h with
    | cons h1 h2 =>
      cases h2
      obtain ⟨p, xs, rfl, g1, g2⟩ := h1.list
      exact .inl ⟨_, _, rfl, .inl ⟨xs, SqL.of g1, rfl⟩, hq c H _ (Gr.refl u) (by rw [g2.length]; exact .int _)⟩
  · cases w
    cases h with
    | cons h1 h2 =>
      cases h2
      obtain ⟨p, xs, rfl, g1, g2⟩ := h1.tup
      exact .inl ⟨_, _, rfl, .inr ⟨xs, g1, rfl⟩, hq c H _ (Gr.refl u) (by rw [g2.length]; exact .int _)⟩
  · cases w
    cases h with
    | cons h1 h2 =>
      cases h2
      obtain ⟨p, rfl, g1⟩ := h1.scr
      exact .inl ⟨_, _, rfl, .inl ⟨_, g1, rfl⟩, hq c H _ (Gr.refl u) (by rw [List.length_map]; exact .int _)⟩
  · cases w
    cases h with
    | cons h1 h2 =>
      cases h2
      obtain ⟨p, kvs, rfl, g1, g2, g3⟩ := h1.dic
      have e := congrArg List.length g2
      rw [List.length_map, List.length_map] at e
      exact .inr ⟨_, _, rfl, g1, hq c H _ (Gr.refl u) (by rw [e]; exact .int _)⟩
  · cases w
/-! all, any -/
def boolsOf : List D → Option (List Bool)
  | [] => some []
  | .bl b :: ds => match boolsOf ds with
    | some bs => some (b :: bs)
    | none => none
  | _ => none
theorem boolsOf_ok : ∀ {vs : List V} {ds : List D} {bs : List Bool}, FzA K c H vs ds → boolsOf ds = some bs → vs = bs.map V.bl
  | [], [], _, _, w => by simp [boolsOf] at w; subst w; rfl
  | _, d :: ds, bs, h, w => by
    cases h with
    | cons a b =>
      cases d <;> simp only [boolsOf] at w <;> first | cases w | skip
      cases a
      cases q : boolsOf ds with
      | none => rw [q] at w; cases w
      | some b' => rw [q] at w; cases w; rw [boolsOf_ok b q]; rfl
  | _ :: _, [], _, h, _ => by cases h
def allF : List D → Option Rv
  | [.lst ds] => (boolsOf ds).map fun bs => .fz (.bl (bs.all fun b => b))
  | _ => none
theorem bf_all : BF X allF (rAll X.K) := by
  intro c H vs ds rv Q u h w hq
  unfold allF at w
  split at w
  · rename_i ds'
    cases q : boolsOf ds' with
    | none => rw [q] at w; cases w
    | some bs =>
      rw [q] at w; cases w
      cases h with
      | cons h1 h2 =>
        cases h2
        obtain ⟨p, xs, rfl, g1, g2⟩ := h1.list
        have := boolsOf_ok g2 q
        subst this
        exact ⟨p, bs, rfl, SqL.of g1, hq c H _ (Gr.refl u) (.bl _)⟩
  · cases w
/-! max, min of two; int, str, tuple, list -/
def maxF : List D → Option Rv
  | [.int i, .int j] => some (.fz (.int (if j > i then j else i)))
  | _ => none
def minF : List D → Option Rv
  | [.int i, .int j] => some (.fz (.int (if j < i then j else i)))
  | _ => none
theorem bf_max : BF X maxF (fun xs H Q => ∃ i j, xs = [.int i, .int j] ∧ Q (.int (if j > i then j else i)) H) := by
  intro c H vs ds rv Q u h w hq
  unfold maxF at w
  split at w
  · cases w
    cases h with
    | cons h1 h2 => cases h2 with
      | cons h2 h3 => cases h3; rw [h1.int, h2.int]; exact ⟨_, _, rfl, hq c H _ (Gr.refl u) (.int _)⟩
  · cases w
theorem bf_min : BF X minF (fun xs H Q => ∃ i j, xs = [.int i, .int j] ∧ Q (.int (if j < i then j else i)) H) := by
  intro c H vs ds rv Q u h w hq
  unfold minF at w
  split at w
  · cases w
    cases h with
    | cons h1 h2 => cases h2 with
      | cons h2 h3 => cases h3; rw [h1.int, h2.int]; exact ⟨_, _, rfl, hq c H _ (Gr.refl u) (.int _)⟩
  · cases w
def intF : List D → Option Rv
  | [.int i] => some (.fz (.int i))
  | [.bl k] => some (.fz (.int (if k then 1 else 0)))
  | [.str s] => if s.length ≤ 640 then (PySem.intText? s).map fun n => .fz (.int n) else none
  | _ => none
def rInt : List V → Hp → VK → Prop := fun xs H Q => ((∃ i, xs = [.int i] ∧ Q (.int i) H) ∨ ∃ k, xs = [.bl k] ∧ Q (.int (if k then 1 else 0)) H) ∨ (∃ a n, xs = [.str a] ∧ PySem.intText? a = some n ∧ a.length ≤ 640 ∧ Q (.int n) H)
theorem call_intAll : CallR X (.type "int") rInt := CallR.or call_int1 call_int_str
theorem bf_int : BF X intF rInt := by
  intro c H vs ds rv Q u h w hq
  unfold intF at w
  split at w
  · cases w
    cases h with
    | cons h1 h2 => cases h2; rw [h1.int]; exact .inl (.inl ⟨_, rfl, hq c H _ (Gr.refl u) (.int _)⟩)
  · cases w
    cases h with
    | cons h1 h2 => cases h2; rw [h1.bl]; exact .inl (.inr ⟨_, rfl, hq c H _ (Gr.refl u) (.int _)⟩)
  · split at w
    · rename_i s hs
      cases q : PySem.intText? s with
      | none => rw [q] at w; cases w
      | some n =>
        rw [q] at w; cases w
        cases h with
        | cons h1 h2 => cases h2; rw [h1.str]; exact .inr ⟨_, _, rfl, q, hs, hq c H _ (Gr.refl u) (.int _)⟩
    · cases w
  · cases w
def strF : List D → Option Rv
  | [.int i] => if i.natAbs.log2 < 1920 then some (.fz (.str (toString i))) else none
  | _ => none
theorem bf_str : BF X strF (fun xs H Q => ∃ i, xs = [.int i] ∧ i.natAbs.log2 < 1920 ∧ Q (.str (toString i)) H) := by
  intro c H vs ds rv Q u h w hq
  unfold strF at w
  split at w
  · split at w
    · cases w
      rename_i hi
      cases h with
      | cons h1 h2 => cases h2; rw [h1.int]; exact ⟨_, rfl, hi, hq c H _ (Gr.refl u) (.str _)⟩
    · cases w
  · cases w
def tupleF : List D → Option Rv
  | [.lst ds] => some (.fz (.tup ds))
  | [.tup ds] => some (.fz (.tup ds))
  | _ => none
theorem Vw.fzt {v : V} {ds : List D} (h : Vw K c H v (.tup ds)) : Fz K c H v (.tup ds) := by
  cases h with
  | fz h => exact h
  | at_ a o hv hd h => cases o <;> cases hd
theorem bf_tuple : BF X tupleF (fun xs H Q => ∃ p ys, xs = [.ref p] ∧ ((SqL X.K H p ys ∧ ∀ l, H l = none → Q (.ref l) (upd H l (.tup ys))) ∨ (SqT X.K H p ys ∧ Q (.ref p) H))) := by
  intro c H vs ds rv Q u h w hq
  unfold tupleF at w
  split at w
  · cases w
    cases h with
    | cons h1 h2 =>
      cases h2
      obtain ⟨p, xs, rfl, g1, g2⟩ := h1.list
      refine ⟨p, xs, rfl, .inl ⟨SqL.of g1, fun l hl => ?_⟩⟩
      obtain ⟨G, N⟩ := new_tup u hl g2
      exact hq _ _ _ G N
  · cases w
    cases h with
    | cons h1 h2 =>
      cases h2
      obtain ⟨p, xs, rfl, g1, g2⟩ := h1.tup
      exact ⟨p, xs, rfl, .inr ⟨g1, hq c H _ (Gr.refl u) h1.fzt⟩⟩
  · cases w
def listF : List D → Option Rv
  | [.lst ds] => some (.own (.lst ds))
  | [.tup ds] => some (.own (.lst ds))
  | _ => none
theorem bf_list : BF X listF (fun xs H Q => ∃ p ys, xs = [.ref p] ∧ (SqL X.K H p ys ∨ SqT X.K H p ys) ∧ ∀ l, H l = none → Q (.ref l) (upd H l (.lst ys))) := by
  intro c H vs ds rv Q u h w hq
  unfold listF at w
  split at w
  · cases w
    cases h with
    | cons h1 h2 =>
      cases h2
      obtain ⟨p, xs, rfl, g1, g2⟩ := h1.list
      refine ⟨p, xs, rfl, .inl (SqL.of g1), fun l hl => ?_⟩
      obtain ⟨G, N⟩ := new_lst u hl g2
      exact hq _ _ _ G N
  · cases w
    cases h with
    | cons h1 h2 =>
      cases h2
      obtain ⟨p, xs, rfl, g1, g2⟩ := h1.tup
      refine ⟨p, xs, rfl, .inr g1, fun l hl => ?_⟩
      obtain ⟨G, N⟩ := new_lst u hl g2
      exact hq _ _ _ G N
  · cases w
/-! isinstance(x, T) -/
def tyName : D → Option String
  | .non => some "NoneType" | .bl _ => some "bool" | .int _ => some "int" | .str _ => some "str"
  | .tup _ => some "tuple" | .lst _ => some "list" | .dic _ _ => some "dict"
  | _ => none
def isiM (T : String) (A : M Rv) : M Rv := A.bind fun r e => match view r e with
  | some d => match tyName d with
    | some n => match kitB n T with
      | some b => .ok (.fz (.bl b)) e
      | none => .stuck
    | none => .stuck
  | none => .stuck
theorem Vw.ty {v : V} {d : D} {n : String} (h : Vw K c H v d) (w : tyName d = some n) : TyX K H v (.type n) := by
  cases d with
  | non => cases w; rw [h.non]; exact .base .non
  | bl b => cases w; rw [h.bl]; exact .base (.bl _)
  | int b => cases w; rw [h.int]; exact .base (.int _)
  | str b => cases w; rw [h.str]; exact .base (.str _)
  | tup ds =>
    cases w
    obtain ⟨p, xs, rfl, g1, g2⟩ := h.tup
    rcases g1 with (g | ⟨o, g⟩) | ⟨o, its, m, g, gc, _⟩
    · exact .base (.tup g)
    · exact .fTuple g
    · exact .kTuple g gc
  | lst ds => cases w; obtain ⟨p, xs, rfl, g1, g2⟩ := h.list; exact .base (.lst g1)
  | dic ks ds => cases w; obtain ⟨p, xs, rfl, g1, g2, g3⟩ := h.dic; exact .base (.dK g1)
  | obj C ks ds => cases w
  | scr ns => cases w
theorem se_isi {tn : Str} {tp : Pos} {A : M Rv} (ha : SE X B W ex A) (hg : Gl X "isinstance") (hm : X.mg "isinstance" = none) (hv : bootBuiltins "isinstance" = some (.builtin "isinstance")) (hg2 : Gl X tn) (hm2 : X.mg tn = none) (hv2 : bootBuiltins tn = some (.type T)) (hn2 : tn ≠ "__name__" := by decide) (hdb2 : (tn == ("__debug__" : Str)) = false := by decide)
    (hs : starEach [ex, .Name tn tp] X.env = (false, eval ex X.env) :: starEach [.Name tn tp] X.env := by rfl) (hs2 : starEach [Expr.Name tn tp] X.env = (false, eval (.Name tn tp) X.env) :: starEach [] X.env := by rfl) (hpl : (backTo pos (starEach [Expr.Name tn tp] X.env)).any (·.1) = false := by rfl) :
    SE X B W (.Call (.Name "isinstance" p) [ex, .Name tn tp] [] pos) (isiM T A) :=
  ⟨PE.imp (pe_callB call_isi hg hm hv (pa_cons ha.pe (pa_cons (pe_bltn (v := .ty T) hg2 hm2 hv2 rfl hn2 hdb2) pa_nil hs2) hs) (by decide) (by decide) hs hpl) fun σ H Q ⟨c, e, R, p⟩ => tE.bind p R fun c1 H1 e1 v1 r1 R1 S1 q1 p1 => by
    cases w : view r1 e1 with
    | none => rw [w] at p1; exact p1.elim
    | some d =>
      rw [w] at p1
      dsimp only at p1
      cases w2 : tyName d with
      | none => rw [w2] at p1; exact p1.elim
      | some n =>
        rw [w2] at p1
        dsimp only at p1
        cases w3 : kitB n T with
        | none => rw [w3] at p1; exact p1.elim
        | some b =>
          rw [w3] at p1
          exact ⟨v1, .ty T, .type n, .type T, b, rfl, .ty T, (view_ok R1 q1 w).ty w2, kit_ty w3, p1 c1 H1 _ R1 Step.refl (.bl b)⟩⟩
/-! ### methods of texts -/
def strMM (f : Str → List D → Option Rv) (A : M Rv) (G : M (List Rv)) : M Rv := A.bind fun r e => match view r e with
  | some (.str z) => (G.bind fun rs e2 => match viewAll rs e2 with
    | some ds => match f z ds with
      | some rv => .ok rv e2
      | none => .stuck
    | none => .stuck) e
  | _ => .stuck
def SF (X : Cx) (f : Str → List D → Option Rv) (r : V → List V → Hp → VK → Prop) : Prop := ∀ (c : CM) (H : Hp) (z : Str) (vs : List V) (ds : List D) (rv : Rv) (Q : VK), Unt c H → VwA X.K c H vs ds → f z ds = some rv →
  (∀ c' H' v, Gr c H c' H' → RvN H X.K c' H' v rv → Q v H') → r (.str z) vs H Q
theorem tBM_of {r : V → List V → Hp → VK → Prop} {f : Str → List D → Option Rv} {A : M Rv} {G : M (List Rv)} {Q : VK} (hf : SF X f r) (h : tE X.K B W (strMM f A G) σ H Q) : tBM X.K "str" r (tE X.K B W A) (tA X.K B W G) σ H Q := by
  obtain ⟨c, e, R, p⟩ := h
  refine tE.bind p R fun c1 H1 e1 v1 r1 R1 S1 q1 p1 => ?_
  split at p1
  · rename_i z w
    have ez := (view_ok R1 q1 w).str
    subst ez
    refine ⟨rfl, tA.bind p1 R1 fun c2 H2 e2 vs rs as R2 S2 V2 p2 => ?_⟩
    cases w2 : viewAll rs e2 with
    | none => rw [w2] at p2; exact p2.elim
    | some ds =>
      rw [w2] at p2
      dsimp only at p2
      cases w3 : f z ds with
      | none => rw [w3] at p2; exact p2.elim
      | some rv =>
        rw [w3] at p2
        exact hf c2 H2 z vs ds rv Q R2.unt (viewAll_ok R2 V2 w2) w3 fun c' H' v g n => p2 c' H' v (R2.grow g) g.step n.rvr
  · exact p1.elim
theorem se_strm {name : Str} {apos cpos : Pos} {o : Expr} {id : String} {r : V → List V → Hp → VK → Prop} {f : Str → List D → Option Rv} {A : M Rv} {G : M (List Rv)} (slot : Slot "str" name id) (hty : typeOf (.builtin id) = pure (.type "method_descriptor")) (hm : MtR X id r) (hf : SF X f r) (ho : SE X B W o A) (ha : SA X B W (ex :: es) G)
    (hbase : attributeBase o name X.env (eval o X.env) = eval o X.env := by rfl)
    (hfew : ((backTo cpos (starEach (ex :: es) X.env)).all (fun x => !x.1) && (backToKw cpos (keywordEach [] X.env)).all (fun x => x.1.isSome)
      && decide ((ex :: es).length + ([] : List Keyword).length + (if ([] : List Keyword).isEmpty then 0 else 1) < 30)) = true := by rfl)
    (hline : (apos.endLine == cpos.line) = true := by rfl) (hs : starEach (ex :: es) X.env = (false, eval ex X.env) :: starEach es X.env := by rfl) (hplain : (backTo cpos (starEach es X.env)).any (·.1) = false := by rfl) :
    SE X B W (.Call (.Attribute o name apos) (ex :: es) [] cpos) (strMM f A G) :=
  ⟨PE.imp (pe_bm PySem.F.plainAttrs_str slot hty hm ho.pe ha.pa hbase hfew hline hs hplain) fun σ H Q h => tBM_of hf h⟩
def strsOf : List D → Option (List Str)
  | [] => some []
  | .str b :: ds => match strsOf ds with
    | some bs => some (b :: bs)
    | none => none
  | _ => none
theorem strsOf_ok : ∀ {vs : List V} {ds : List D} {bs : List Str}, FzA K c H vs ds → strsOf ds = some bs → vs = bs.map V.str
  | [], [], _, _, w => by simp [strsOf] at w; subst w; rfl
  | _, d :: ds, bs, h, w => by
    cases h with
    | cons a b =>
      cases d <;> simp only [strsOf] at w <;> first | cases w | skip
      cases a
      cases q : strsOf ds with
      | none => rw [q] at w; cases w
      | some b' => rw [q] at w; cases w; rw [strsOf_ok b q]; rfl
  | _ :: _, [], _, h, _ => by cases h
def joinL (a : Str) (ds : List D) : Option Rv := match strsOf ds with
  | some ys => if (ys.map (·.length)).sum + ys.length * a.length ≤ 16777216 then some (.fz (.str (Txt.join a ys))) else none
  | none => none
def joinF (a : Str) : List D → Option Rv
  | [.lst ds] => joinL a ds
  | [.tup ds] => joinL a ds
  | _ => none
theorem sf_join : SF X joinF (fun x xs H Q => ∃ a p, ∃ ys : List Str, x = .str a ∧ xs = [.ref p] ∧ (SqL X.K H p (ys.map V.str) ∨ SqT X.K H p (ys.map V.str)) ∧
    (ys.map (·.length)).sum + ys.length * a.length ≤ 16777216 ∧ Q (.str (Txt.join a ys)) H) := by
  intro c H z vs ds rv Q u h w hq
  unfold joinF at w
  split at w
  · rename_i ds'
    unfold joinL at w
    cases q : strsOf ds' with
    | none => rw [q] at w; cases w
    | some ys =>
      rw [q] at w
      dsimp only at w
      split at w
      · rename_i hz
        cases w
        cases h with
        | cons h1 h2 =>
          cases h2
          obtain ⟨p, xs, rfl, g1, g2⟩ := h1.list
          have := strsOf_ok g2 q
          subst this
          exact ⟨z, p, ys, rfl, rfl, .inl (SqL.of g1), hz, hq c H _ (Gr.refl u) (.str _)⟩
      · cases w
  · rename_i ds'
    unfold joinL at w
    cases q : strsOf ds' with
    | none => rw [q] at w; cases w
    | some ys =>
      rw [q] at w
      dsimp only at w
      split at w
      · rename_i hz
        cases w
        cases h with
        | cons h1 h2 =>
          cases h2
          obtain ⟨p, xs, rfl, g1, g2⟩ := h1.tup
          have := strsOf_ok g2 q
          subst this
          exact ⟨z, p, ys, rfl, rfl, .inr g1, hz, hq c H _ (Gr.refl u) (.str _)⟩
      · cases w
  · cases w
def startsF (a : Str) : List D → Option Rv
  | [.str b, .int i] => some (.fz (.bl (Txt.startswith3 a b i)))
  | _ => none
theorem sf_starts : SF X startsF (fun x xs H Q => ∃ (a b : Str) (i : Int), x = .str a ∧ xs = [.str b, .int i] ∧ Q (.bl (Txt.startswith3 a b i)) H) := by
  intro c H z vs ds rv Q u h w hq
  unfold startsF at w
  split at w
  · cases w
    cases h with
    | cons h1 h2 => cases h2 with
      | cons h2 h3 => cases h3; rw [h1.str, h2.int]; exact ⟨z, _, _, rfl, rfl, hq c H _ (Gr.refl u) (.bl _)⟩
  · cases w
/-! ### lists that change -/
def lstAt (i : Nat) (e : Ev) : Option (Bool × List D) := match e[i]? with
  | some (.own (.lst ds)) => some (false, ds)
  | some (.io (.lst ds)) => some (true, ds)
  | _ => none
def slOf (k : Bool) (o : O) : Sl := if k then .io o else .own o
theorem lstAt_ok {i : Nat} {k : Bool} {ds : List D} (h : lstAt i e = some (k, ds)) : e[i]? = some (slOf k (.lst ds)) := by
  unfold lstAt at h
  split at h <;> simp at h
  · rename_i q; obtain ⟨rfl, rfl⟩ := h; exact q
  · rename_i q; obtain ⟨rfl, rfl⟩ := h; exact q
theorem sl_at {i : Nat} {k : Bool} {o : O} (R : Rep K B c σ H e) (h : e[i]? = some (slOf k o)) : ∃ a, σ[i]? = some (some (.ref a)) ∧ c a = (if k then Col.io i else Col.own i) ∧ OAt K c H a o := by
  obtain ⟨w, g1, g2⟩ := R.slot i _ h
  cases k with
  | true => obtain ⟨a, rfl, h2, h3⟩ := g2; exact ⟨a, g1, h2, h3⟩
  | false => obtain ⟨a, rfl, h2, h3⟩ := g2; exact ⟨a, g1, h2, h3⟩
/-- what a slot owns is written -/
theorem Rep.write {i : Nat} {k : Bool} {a : Addr} {o : O} {ho : HO} (R : Rep K B c σ H e) (hs : σ[i]? = some (some (.ref a))) (hc : c a = (if k then Col.io i else Col.own i)) (ha : H a ≠ none) (hi : ∀ s, e[i]? = some s → ∃ o', s = slOf k o') (ho' : OAt K c (upd H a ho) a o) :
    Rep K B c σ (upd H a ho) (e.set i (slOf k o)) ∧ Frz c H c (upd H a ho) := by
  have nf : ∀ b, c b = .frz → b ≠ a := fun b hb z => by rw [z, hc] at hb; cases k <;> simp at hb
  have f : Frz c H c (upd H a ho) := fun b hb => ⟨hb, fun _ => upd_ne (nf b hb)⟩
  refine ⟨⟨fun b hb => ?_, fun b hb => ?_, R.new, R.io, by rw [List.length_set]; exact R.len, fun j s h => ?_⟩, f⟩
  · by_cases z : b = a
    · rw [z, upd_same] at hb; cases hb
    · rw [upd_ne z] at hb; exact R.unt b hb
  · by_cases z : b = a
    · rw [z, upd_same]; simp
    · rw [upd_ne z]; exact R.keep b hb
  · by_cases q : i = j
    · subst q
      rcases Nat.lt_or_ge i e.length with l | l
      · rw [List.getElem?_set_self l] at h
        cases h
        refine ⟨_, hs, ?_⟩
        cases k with
        | true => exact ⟨a, rfl, by simpa using hc, ho'⟩
        | false => exact ⟨a, rfl, by simpa using hc, ho'⟩
      · rw [List.set_eq_of_length_le l, List.getElem?_eq_none l] at h; cases h
    · rw [List.getElem?_set_ne q] at h
      obtain ⟨w, h1, h2⟩ := R.slot j s h
      refine ⟨w, h1, h2.mono f fun b hb hz => ⟨rfl, upd_ne fun z => ?_⟩⟩
      rw [z, hc] at hz
      cases k <;> simp at hz <;> exact q hz
theorem Step.write {i : Nat} {k : Bool} {a : Addr} {ho : HO} (S : Step c0 H0 c H) (hc : c a = (if k then Col.io i else Col.own i)) : Step c0 H0 c (upd H a ho) := ⟨fun b hb => by
  obtain ⟨h1, h2, h3, h4⟩ := S.at_ b hb
  by_cases z : b = a
  · subst z
    refine ⟨by rw [upd_same]; simp, fun g => ?_, fun g => ?_, h4⟩
    · rw [(h2 g).1] at hc; cases k <;> simp at hc
    · rw [(h3 g).1] at hc; cases k <;> simp at hc
  · rw [upd_ne z]; exact ⟨h1, h2, h3, h4⟩⟩
def mutM (f : List D → List D → Option (D × List D)) (i : Nat) (G : M (List Rv)) : M Rv := fun e => match lstAt i e with
  | some _ => (G.bind fun rs e1 => match freezeAll rs e1 with
    | some (as, e2) => match lstAt i e2 with
      | some (k, ds) => match f as ds with
        | some (d, es) => .ok (.fz d) (e2.set i (slOf k (.lst es)))
        | none => .stuck
      | none => .stuck
    | none => .stuck) e
  | none => .stuck
def MutF (X : Cx) (f : List D → List D → Option (D × List D)) (r : V → List V → Hp → VK → Prop) : Prop := ∀ (c : CM) (H : Hp) (l : Addr) (xs vs : List V) (as ds es : List D) (d : D) (Q : VK), H l = some (.lst xs) → FzA X.K c H xs ds → FzA X.K c H vs as → f as ds = some (d, es) →
  (∀ v ys, Fz X.K c H v d → FzA X.K c H ys es → Q v (upd H l (.lst ys))) → r (.ref l) vs H Q
theorem tBMl_of {r : V → List V → Hp → VK → Prop} {f : List D → List D → Option (D × List D)} {i : Nat} {G : M (List Rv)} {Q : VK} (hf : MutF X f r) (h : tE X.K B W (mutM f i G) σ H Q) : tBM X.K "list" r (tVar i) (tA X.K B W G) σ H Q := by
  obtain ⟨c, e, R, p⟩ := h
  unfold mutM at p
  cases w0 : lstAt i e with
  | none => rw [w0] at p; exact p.elim
  | some kd =>
    obtain ⟨k0, ds0⟩ := kd
    rw [w0] at p
    dsimp only at p
    obtain ⟨a, g1, g2, xs0, g3, g4⟩ := sl_at R (lstAt_ok w0)
    refine ⟨.ref a, g1, .inl ⟨rfl, xs0, SqL.of g3⟩, tA.bind0 p R fun c1 H1 e1 vs rs as R1 S1 V1 p1 => ?_⟩
    cases w : freezeAll rs e1 with
    | none => rw [w] at p1; exact p1.elim
    | some pr =>
      obtain ⟨ds, e2⟩ := pr
      rw [w] at p1
      dsimp only at p1
      obtain ⟨c2, R2, S2, F2, f2⟩ := freezeAll_ok R1 S1 V1 w
      cases w1 : lstAt i e2 with
      | none => rw [w1] at p1; exact p1.elim
      | some kd =>
        obtain ⟨k, es⟩ := kd
        rw [w1] at p1
        dsimp only at p1
        obtain ⟨b, b1, b2, xs, b3, b4⟩ := sl_at R2 (lstAt_ok w1)
        have eb : b = a := by rw [g1] at b1; cases b1; rfl
        subst eb
        cases w2 : f ds es with
        | none => rw [w2] at p1; exact p1.elim
        | some pr2 =>
          obtain ⟨d, es2⟩ := pr2
          rw [w2] at p1
          refine hf c2 H1 b xs vs ds es es2 d Q b3 b4 F2 w2 fun v ys hv hys => ?_
          have nf : ∀ z, c2 z = .frz → z ≠ b := fun z hz q => by rw [q, b2] at hz; cases k <;> simp at hz
          have f : Frz c2 H1 c2 (upd H1 b (.lst ys)) := fun z hz => ⟨hz, fun _ => upd_ne (nf z hz)⟩
          obtain ⟨R3, f3⟩ := R2.write (o := .lst es2) b1 b2 (by rw [b3]; simp) (fun s hs => by rw [lstAt_ok w1] at hs; cases hs; exact ⟨_, rfl⟩) ⟨ys, upd_same, hys.mono f⟩
          exact p1 c2 _ v R3 (S2.write b2) (hv.mono f)
theorem se_mut {name : Str} {apos cpos : Pos} {o : Expr} {id : String} {i : Nat} {r : V → List V → Hp → VK → Prop} {f : List D → List D → Option (D × List D)} {G : M (List Rv)} (slot : Slot "list" name id) (hty : typeOf (.builtin id) = pure (.type "method_descriptor")) (hm : MtR X id r) (hf : MutF X f r) (ho : PE X o (tVar i)) (ha : SA X B W (ex :: es) G)
    (hbase : attributeBase o name X.env (eval o X.env) = eval o X.env := by rfl)
    (hfew : ((backTo cpos (starEach (ex :: es) X.env)).all (fun x => !x.1) && (backToKw cpos (keywordEach [] X.env)).all (fun x => x.1.isSome)
      && decide ((ex :: es).length + ([] : List Keyword).length + (if ([] : List Keyword).isEmpty then 0 else 1) < 30)) = true := by rfl)
    (hline : (apos.endLine == cpos.line) = true := by rfl) (hs : starEach (ex :: es) X.env = (false, eval ex X.env) :: starEach es X.env := by rfl) (hplain : (backTo cpos (starEach es X.env)).any (·.1) = false := by rfl) :
    SE X B W (.Call (.Attribute o name apos) (ex :: es) [] cpos) (mutM f i G) :=
  ⟨PE.imp (pe_bm PySem.F.plainAttrs_list slot hty hm ho ha.pa hbase hfew hline hs hplain) fun σ H Q h => tBMl_of hf h⟩
def appendF : List D → List D → Option (D × List D)
  | [d], ds => if ds.length < sizeLine then some (.non, ds ++ [d]) else none
  | _, _ => none
theorem mf_append : MutF X appendF rAppend := by
  intro c H l xs vs as ds es d Q hl hx hv w hq
  unfold appendF at w
  split at w
  · split at w
    · rename_i hz
      cases w
      cases hv with
      | cons h1 h2 => cases h2; exact ⟨l, xs, _, rfl, rfl, hl, by rw [hx.length]; exact hz, hq _ _ .non (hx.append (.cons h1 .nil))⟩
    · cases w
  · cases w
def extendF : List D → List D → Option (D × List D)
  | [.lst zs], ds => if ds.length + zs.length ≤ sizeLine then some (.non, ds ++ zs) else none
  | [.tup zs], ds => if ds.length + zs.length ≤ sizeLine then some (.non, ds ++ zs) else none
  | _, _ => none
def rExtAll (K : PySem.W.Frag) : V → List V → Hp → VK → Prop := fun x vs H Q => rExtend x vs H Q ∨ rExtT K x vs H Q
theorem mt_extAll : MtR X "list.extend" (rExtAll X.K) := MtR.or mt_extend mt_extT
theorem mf_extend : MutF X extendF (rExtAll X.K) := by
  intro c H l xs vs as ds es d Q hl hx hv w hq
  unfold extendF at w
  split at w
  · split at w
    · rename_i hz
      cases w
      cases hv with
      | cons h1 h2 =>
        cases h2
        cases h1 with
        | lst a1 a2 a3 => exact .inl ⟨l, _, xs, _, rfl, rfl, hl, a2, by rw [hx.length, a3.length]; exact hz, hq _ _ .non (hx.append a3)⟩
    · cases w
  · split at w
    · rename_i hz
      cases w
      cases hv with
      | cons h1 h2 =>
        cases h2
        obtain ⟨p, zs', rfl, g1, g2⟩ := (Vw.fz h1).tup
        exact .inr ⟨l, p, xs, zs', rfl, rfl, hl, g1, by rw [hx.length, g2.length]; exact hz, hq _ _ .non (hx.append g2)⟩
    · cases w
  · cases w
def popAtF : List D → List D → Option (D × List D)
  | [.int i], ds => if 0 ≤ i ∧ i < 2 ^ 63 then match ds[i.toNat]? with
      | some d => some (d, ds.eraseIdx i.toNat)
      | none => none
    else none
  | _, _ => none
theorem mf_popAt : MutF X popAtF rPopAt := by
  intro c H l xs vs as ds es d Q hl hx hv w hq
  unfold popAtF at w
  split at w
  · rename_i i
    split at w
    · rename_i hi
      cases q : ds[i.toNat]? with
      | none => rw [q] at w; cases w
      | some d' =>
        rw [q] at w
        cases w
        obtain ⟨v, g1, g2⟩ := hx.getD q
        have hlt : i.toNat < xs.length := by rw [List.getElem?_eq_some_iff] at g1; exact g1.1
        cases hv with
        | cons h1 h2 =>
          cases h2
          cases h1
          refine ⟨l, xs, i, i.toNat, v, rfl, rfl, hl, by omega, hi.2, ?_, g1, hq _ _ g2 (hx.eraseIdx _)⟩
          exact seqIndex_of hi.1 (by omega)
    · cases w
  · cases w
end
end Sc

set_option Elab.async false
set_option linter.all false
set_option autoImplicit false
set_option maxRecDepth 100000
set_option maxHeartbeats 4000000
namespace Sc
open PySem PySem.Spec PyProof.Rows L2
section
variable {X : Cx} {K : PySem.W.Frag} {B : Bs} {W : WX} {σ : Sg} {c c' c2 c0 : CM} {H H' H2 Hs H0 : Hp} {e e' : Ev}
/-! ### targets -/
abbrev TGf := D → Ev → Option Ev
abbrev TGsf := List D → Ev → Option Ev
def tG (K : PySem.W.Frag) (B : Bs) (is : List Nat) (g : TGf) : TG := fun v σ H Q => ∃ c e d, Rep K B c σ H e ∧ Fz K c H v d ∧ match g d e with
  | some e' => ∀ σ', Rep K B c σ' H e' → σ'.length = σ.length → (∀ j, j ∉ is → σ'[j]? = σ[j]?) → Q σ' H
  | none => False
def tGs (K : PySem.W.Frag) (B : Bs) (is : List Nat) (g : TGsf) : TGs := fun vs σ H Q => ∃ c e ds, Rep K B c σ H e ∧ FzA K c H vs ds ∧ match g ds e with
  | some e' => ∀ σ', Rep K B c σ' H e' → σ'.length = σ.length → (∀ j, j ∉ is → σ'[j]? = σ[j]?) → Q σ' H
  | none => False
structure SG (X : Cx) (B : Bs) (tg : Expr) (is : List Nat) (g : TGf) : Prop where
  pg : PG X tg (tG X.K B is g)
structure SGs (X : Cx) (B : Bs) (ts : List Expr) (is : List Nat) (g : TGsf) : Prop where
  pgs : PGs X ts (tGs X.K B is g)
theorem PG.imp {tg : Expr} {t t' : TG} (h : PG X tg t) (i : ∀ v σ H Q, t' v σ H Q → t v σ H Q) : PG X tg t' := ⟨fun pins s σ H v u Q I r q => h.run pins s σ H v u Q I r (i v σ H Q q)⟩
theorem PGs.imp {ts : List Expr} {t t' : TGs} (h : PGs X ts t) (i : ∀ v σ H Q, t' v σ H Q → t v σ H Q) : PGs X ts t' := ⟨fun pins s σ H v u Q I r q => h.run pins s σ H v u Q I r (i v σ H Q q)⟩
def nameG (i : Nat) : TGf := fun d e => if i < e.length then some (e.set i (.fz d)) else none
theorem sg_name {i : Nat} {x : Str} {pos : Pos} (hN : X.N.Nodup) (hi : X.N[i]? = some x) (hx : Loc X.env.scope x) (hf : X.fn x = true ∨ X.env.scope.names.lookup x = some .local := by first | exact .inl rfl | exact .inr rfl | assumption) : SG X B (.Name x pos) [i] (nameG i) :=
  ⟨PG.imp (pg_name hN hi hx hf) fun v σ H Q ⟨c, e, d, R, f, p⟩ => by
    unfold nameG at p
    split at p
    · rename_i e' w
      split at w
      · rename_i hl
        cases w
        refine p _ (R.set_slot (s := .fz d) ⟨v, rfl, f⟩ hl) (by simp) fun j hj => ?_
        rw [List.getElem?_set_ne (fun z => hj (by simp [z]))]
      · cases w
    · exact p.elim⟩
def nilG : TGsf := fun ds e => match ds with
  | [] => some e
  | _ => none
def consG (g : TGf) (gs : TGsf) : TGsf := fun ds e => match ds with
  | d :: ds => match g d e with
    | some e1 => gs ds e1
    | none => none
  | [] => none
theorem sgs_nil : SGs X B [] [] nilG := ⟨PGs.imp pgs_nil fun vs σ H Q ⟨c, e, ds, R, f, p⟩ => by
  unfold nilG at p
  cases f with
  | nil => exact ⟨rfl, p σ R rfl fun j _ => rfl⟩
  | cons a b => exact p.elim⟩
theorem sgs_cons {tg : Expr} {ts : List Expr} {is js : List Nat} {g : TGf} {gs : TGsf} (h1 : SG X B tg is g) (h2 : SGs X B ts js gs)
    (hs : (assignEach (tg :: ts) X.env).map (·.2) = assign tg X.env :: (assignEach ts X.env).map (·.2) := by rfl) : SGs X B (tg :: ts) (is ++ js) (consG g gs) :=
  ⟨PGs.imp (pgs_cons h1.pg h2.pgs hs) fun vs σ H Q ⟨c, e, ds, R, f, p⟩ => by
    unfold consG at p
    cases f with
    | nil => exact p.elim
    | @cons v d vs' ds' a b =>
      refine ⟨v, vs', rfl, c, e, d, R, a, ?_⟩
      dsimp only at p
      cases q : g d e with
      | none => rw [q] at p; exact p.elim
      | some e1 =>
        rw [q] at p
        intro σ1 R1 l1 k1
        refine ⟨c, e1, ds', R1, b, ?_⟩
        dsimp only at p
        cases q2 : gs ds' e1 with
        | none => rw [q2] at p; exact p.elim
        | some e2 =>
          rw [q2] at p
          exact fun σ2 R2 l2 k2 => p σ2 R2 (l2.trans l1) fun j hj => (k2 j fun z => hj (by simp [z])).trans (k1 j fun z => hj (by simp [z]))⟩
def tupG (gs : TGsf) : TGf := fun d e => match d with
  | .tup ds => gs ds e
  | _ => none
theorem gs_len : True := trivial
/-- a target of a written length -/
def tupGn (n : Nat) (gs : TGsf) : TGf := fun d e => match d with
  | .tup ds => if ds.length = n then gs ds e else none
  | _ => none
theorem sg_tup {ts : List Expr} {k : Nat} {pos : Pos} {is : List Nat} {gs : TGsf} {n : Nat} (hc : X.calm = true) (h : SGs X B ts is gs)
    (hn : (assignEach ts X.env).length = n := by rfl) (hst : (assignEach ts X.env).findIdx? (·.1) = none := by rfl) : SG X B (.Tuple ts k pos) is (tupGn n gs) :=
  ⟨PG.imp (pg_tup hc h.pgs hn hst) fun v σ H Q ⟨c, e, d, R, f, p⟩ => by
    unfold tupGn at p
    split at p
    · rename_i e' w
      split at w
      · rename_i ds
        split at w
        · rename_i hl
          obtain ⟨a, xs, rfl, g1, g2⟩ := (Vw.fz f).tup
          refine ⟨a, xs, rfl, g1, by rw [g2.length]; exact hl, c, e, ds, R, g2, ?_⟩
          rw [w]
          exact p
        · cases w
      · cases w
    · exact p.elim⟩

/-! ### what is walked -/
def ItR (K : PySem.W.Frag) (c : CM) (H : Hp) (J : It) (ds : List D) : Prop := ∀ (i : Nat) (c1 : CM) (H1 : Hp), Step c H c1 H1 → Unt c1 H1 →
  (∀ d, ds[i]? = some d → J.go i H1 ∧ ∀ x H2, J.yld i H1 x H2 → ∃ c2, Gr c1 H1 c2 H2 ∧ Fz K c2 H2 x d) ∧ (ds[i]? = none → J.stop i H1)
def PostI (K : PySem.W.Frag) (B : Bs) (W : WX) (σ : Sg) (c : CM) (H : Hp) (r : Rs (List D)) (R : It → Hp → Prop) : Prop := match r with
  | .ok ds e' => ∀ c' H' J, Rep K B c' σ H' e' → Step c H c' H' → ItR K c' H' J ds → R J H'
  | .exc x e' => ∀ c' H' cls dd, Rep K B c' σ H' e' → Step c H c' H' → XcR K c' H' x cls dd → W cls dd σ H'
  | .stuck => False
def tI (K : PySem.W.Frag) (B : Bs) (W : WX) (m : M (List D)) : TI := fun σ H R => ∃ c e, Rep K B c σ H e ∧ PostI K B W σ c H (m e) R
structure SI (X : Cx) (B : Bs) (W : WX) (tg it : Expr) (m : M (List D)) : Prop where
  pi : PI X tg it (tI X.K B W m)
theorem PI.imp {tg it : Expr} {t t' : TI} (h : PI X tg it t) (i : ∀ σ H Q, t' σ H Q → t σ H Q) : PI X tg it t' := ⟨fun pins s σ H Q I q => h.run pins s σ H Q I (i σ H Q q)⟩
theorem PI.or {tg it : Expr} {t t' : TI} (h : PI X tg it t) (k : PI X tg it t') : PI X tg it (fun σ H Q => t σ H Q ∨ t' σ H Q) := ⟨fun pins s σ H Q I q => by
  rcases q with q | q
  · exact h.run pins s σ H Q I q
  · exact k.run pins s σ H Q I q⟩
theorem tA.bindI {A : M (List Rv)} {f : List Rv → M (List D)} {Q : It → Hp → Prop} {t : List V → Hp → Prop} (h : PostI K B W σ c H ((A.bind f) e) Q) (R : Rep K B c σ H e)
    (hf : ∀ c' H' e' vs rs as, Rep K B c' σ H' e' → Step c H c' H' → RvsR H K c' σ H' vs rs as → PostI K B W σ c H (f rs e') Q → t vs H') : tA K B W A σ H t := by
  refine ⟨c, e, R, ?_⟩
  unfold M.bind at h
  cases q : A e with
  | ok r e' => rw [q] at h; exact fun c' H' vs as R' S rv => hf c' H' e' vs r as R' S rv h
  | exc x e' => rw [q] at h; exact h
  | stuck => rw [q] at h; exact h
/-- the signs of a text -/
def signsD (z : Str) : List D := z.cps.toList.map fun s => .str ⟨#[s]⟩
/-- the items of a list, a tuple or a text -/
def iterM (A : M Rv) : M (List D) := A.bind fun r e => match freeze r e with
  | some (.lst ds, e') => .ok ds e'
  | some (.tup ds, e') => .ok ds e'
  | some (.str z, e') => .ok (signsD z) e'
  | _ => .stuck
theorem itR_str {z : Str} : ItR K c H (Its z) (signsD z) := by
  intro i c1 H1 S U
  refine ⟨fun d hd => ?_, fun hn => ?_⟩
  · unfold signsD at hd
    rw [List.getElem?_map] at hd
    cases q : z.cps.toList[i]? with
    | none => rw [q] at hd; cases hd
    | some s =>
      rw [q] at hd
      cases hd
      have q' : z.cps[i]? = some s := by simpa using q
      have hlt : i < z.cps.size := (Array.getElem?_eq_some_iff.mp q').1
      refine ⟨hlt, fun x H2 ⟨e1, s', e2, e3⟩ => ?_⟩
      subst e1 e3
      rw [q'] at e2
      cases e2
      exact ⟨c1, Gr.refl U, .str _⟩
  · have := List.getElem?_eq_none_iff.mp hn
    have h2 : z.cps.size ≤ i := by simpa [signsD] using this
    exact h2
theorem itR_list {a : Addr} {xs : List V} {ds : List D} (t : ∀ a, c a = .frz → H a ≠ none) (ha : c a = .frz) (hx : H a = some (.lst xs)) (f : FzA K c H xs ds) : ItR K c H (Itl K a) ds := by
  intro i c1 H1 S U
  have h1 : H1 a = some (.lst xs) := by rw [((S.at_ a (t a ha)).2.1 ha).2]; exact hx
  have f1 := f.mono (S.frz t)
  refine ⟨fun d hd => ?_, fun hn => ⟨xs, SqL.of h1, ?_⟩⟩
  · obtain ⟨v, g1, g2⟩ := f1.getD hd
    refine ⟨⟨xs, v, SqL.of h1, g1⟩, fun x H2 ⟨e1, e2⟩ => ?_⟩
    subst e1
    have := e2 xs (SqL.of h1)
    rw [g1] at this
    cases this
    exact ⟨c1, Gr.refl U, g2⟩
  · rw [f.length]; exact List.getElem?_eq_none_iff.mp hn
theorem SqT.step {a : Addr} {ds : List D} (t : ∀ a, c a = .frz → H a ≠ none) (S : Step c H c' H') (h : Fz K c H (.ref a) (.tup ds)) : ∃ xs, SqT K H' a xs ∧ FzA K c' H' xs ds := by
  have := h.mono (S.frz t)
  obtain ⟨b, xs, e, g1, g2⟩ := (Vw.fz this).tup
  cases e
  exact ⟨xs, g1, g2⟩
theorem fz_kt {a : Addr} {ds : List D} (h : Fz K c H (.ref a) (.tup ds)) : (∃ xs, H a = some (.tup xs) ∧ c a = .frz ∧ FzA K c H xs ds) ∨ ∃ xs, KT K a xs ∧ FzA K c H xs ds := by
  cases h with
  | tup h1 h2 h3 => exact .inl ⟨_, h2, h1, h3⟩
  | ktup h2 h3 => exact .inr ⟨_, h2, h3⟩
theorem itR_tup {a : Addr} {ds : List D} (t : ∀ a, c a = .frz → H a ≠ none) (f : Fz K c H (.ref a) (.tup ds)) : ItR K c H (Itt K a) ds := by
  intro i c1 H1 S U
  obtain ⟨xs, h1, f1⟩ := SqT.step t S f
  refine ⟨fun d hd => ?_, fun hn => ⟨xs, h1, ?_⟩⟩
  · obtain ⟨v, g1, g2⟩ := f1.getD hd
    refine ⟨⟨xs, v, h1, g1⟩, fun x H2 ⟨e1, e2⟩ => ?_⟩
    subst e1
    have := e2 xs h1
    rw [g1] at this
    cases this
    exact ⟨c1, Gr.refl U, g2⟩
  · rw [f1.length]; exact List.getElem?_eq_none_iff.mp hn
theorem si_iter {tg it : Expr} {A : M Rv} (h : SE X B W it A) : SI X B W tg it (iterM A) :=
  ⟨PI.imp (PI.or (pi_list h.pe) (PI.or (pi_tup h.pe) (pi_str h.pe))) fun σ H R ⟨c, e, Rp, p⟩ => by
    unfold iterM M.bind at p
    cases q : A e with
    | stuck => rw [q] at p; exact p.elim
    | exc x e1 => rw [q] at p; exact .inl ⟨c, e, Rp, by rw [q]; exact p⟩
    | ok r e1 =>
      rw [q] at p
      dsimp only at p
      split at p
      · rename_i ds e2 w
        refine .inl ⟨c, e, Rp, ?_⟩
        rw [q]
        intro c1 H1 v R1 S1 v1
        obtain ⟨c2, R2, S2, F2, f2, o2⟩ := freeze_ok R1 S1 v1 w
        cases F2 with
        | lst h1 h2 h3 => exact ⟨_, rfl, ⟨_, SqL.of h2⟩, p c2 H1 _ R2 S2 (itR_list R2.trk h1 h2 h3)⟩
      · rename_i ds e2 w
        refine .inr (.inl ⟨c, e, Rp, ?_⟩)
        rw [q]
        intro c1 H1 v R1 S1 v1
        obtain ⟨c2, R2, S2, F2, f2, o2⟩ := freeze_ok R1 S1 v1 w
        obtain ⟨a, xs, rfl, g1, g2⟩ := (Vw.fz F2).tup
        exact ⟨a, rfl, ⟨xs, g1⟩, p c2 H1 _ R2 S2 (itR_tup R2.trk F2)⟩
      · rename_i z e2 w
        refine .inr (.inr ⟨c, e, Rp, ?_⟩)
        rw [q]
        intro c1 H1 v R1 S1 v1
        obtain ⟨c2, R2, S2, F2, f2, o2⟩ := freeze_ok R1 S1 v1 w
        cases F2
        exact ⟨z, rfl, p c2 H1 _ R2 S2 itR_str⟩
      · exact p.elim⟩
/-! range(n), range(a, b) -/
def rangeD (lo : Int) (n : Nat) : List D := (List.range n).map fun (k : Nat) => .int (lo + (k : Int))
theorem itR_range (lo : Int) (n : Nat) : ItR K c H (Itr lo n) (rangeD lo n) := by
  intro i c1 H1 S U
  refine ⟨fun d hd => ?_, fun hn => ?_⟩
  · have hl : i < n := by
      have := (List.getElem?_eq_some_iff.mp hd).1
      simpa [rangeD] using this
    refine ⟨hl, fun x H2 ⟨e1, e2⟩ => ?_⟩
    subst e1 e2
    have : d = .int (lo + i) := by
      unfold rangeD at hd
      rw [List.getElem?_map, List.getElem?_range hl] at hd
      cases hd; rfl
    subst this
    exact ⟨c1, Gr.refl U, .int _⟩
  · have := List.getElem?_eq_none_iff.mp hn
    have h2 : n ≤ i := by simpa [rangeD] using this
    exact h2
def inR (i : Int) : Bool := decide (-(2 ^ 62) ≤ i) && decide (i < 2 ^ 62)
theorem inR_ok {i : Int} (h : inR i = true) : -(2 ^ 62) ≤ i ∧ i < 2 ^ 62 := by unfold inR at h; simpa using h
def rng1M (G : M (List Rv)) : M (List D) := G.bind fun rs e => match viewAll rs e with
  | some [.int j] => if inR j then .ok (rangeD 0 j.toNat) e else .stuck
  | _ => .stuck
def rng2M (G : M (List Rv)) : M (List D) := G.bind fun rs e => match viewAll rs e with
  | some [.int i, .int j] => if inR i && inR j then .ok (rangeD i (j - i).toNat) e else .stuck
  | _ => .stuck
theorem si_range1 {tg a : Expr} {p pos : Pos} {G : M (List Rv)} (hg : Gl X "range") (hm : X.mg "range" = none) (h : SA X B W [a] G) (hs : starEach [a] X.env = [(false, eval a X.env)] := by rfl) : SI X B W tg (.Call (.Name "range" p) [a] [] pos) (rng1M G) :=
  ⟨PI.imp (pi_range1 hg hm h.pa hs) fun σ H R ⟨c, e, Rp, p⟩ => tA.bindI p Rp fun c1 H1 e1 vs rs as R1 S1 V1 p1 => by
    split at p1
    · rename_i j w
      split at p1
      · rename_i hj
        cases viewAll_ok R1 V1 w with
        | cons h1 h2 =>
          cases h2
          rw [h1.int]
          obtain ⟨b1, b2⟩ := inR_ok hj
          exact ⟨j, rfl, b1, b2, p1 c1 H1 _ R1 S1 (itR_range 0 _)⟩
      · exact p1.elim
    · exact p1.elim⟩
theorem si_range2 {tg a b : Expr} {p pos : Pos} {G : M (List Rv)} (hg : Gl X "range") (hm : X.mg "range" = none) (h : SA X B W [a, b] G) (hs : starEach [a, b] X.env = [(false, eval a X.env), (false, eval b X.env)] := by rfl) (hs2 : starEach [b] X.env = [(false, eval b X.env)] := by rfl) : SI X B W tg (.Call (.Name "range" p) [a, b] [] pos) (rng2M G) :=
  ⟨PI.imp (pi_range2 hg hm h.pa hs hs2) fun σ H R ⟨c, e, Rp, p⟩ => tA.bindI p Rp fun c1 H1 e1 vs rs as R1 S1 V1 p1 => by
    split at p1
    · rename_i i j w
      split at p1
      · rename_i hj
        simp at hj
        cases viewAll_ok R1 V1 w with
        | cons h1 h2 => cases h2 with
          | cons h2 h3 =>
            cases h3
            rw [h1.int, h2.int]
            obtain ⟨b1, b2⟩ := inR_ok hj.1
            obtain ⟨b3, b4⟩ := inR_ok hj.2
            exact ⟨i, j, rfl, ⟨b1, b2, b3, b4⟩, p1 c1 H1 _ R1 S1 (itR_range i _)⟩
      · exact p1.elim
    · exact p1.elim⟩
/-! zip(a, b) of two lists or two tuples -/
def pairsD (xs ys : List D) : List D := (xs.zip ys).map fun p => .tup [p.1, p.2]
theorem pairs_get {xs ys : List D} {i : Nat} {d : D} (h : (pairsD xs ys)[i]? = some d) : ∃ x y, xs[i]? = some x ∧ ys[i]? = some y ∧ d = .tup [x, y] := by
  unfold pairsD at h
  rw [List.getElem?_map] at h
  cases q : (xs.zip ys)[i]? with
  | none => rw [q] at h; cases h
  | some p =>
    rw [q] at h
    cases h
    obtain ⟨x, y⟩ := p
    have := List.getElem?_zip_eq_some.mp q
    exact ⟨x, y, this.1, this.2, rfl⟩
theorem pairs_none {xs ys : List D} {i : Nat} (h : (pairsD xs ys)[i]? = none) : xs.length ≤ i ∨ ys.length ≤ i := by
  have := List.getElem?_eq_none_iff.mp h
  simp [pairsD] at this
  omega
theorem itR_zipL {a b : Addr} {xs ys : List V} {ds es : List D} (t : ∀ a, c a = .frz → H a ≠ none) (ha : c a = .frz) (hx : H a = some (.lst xs)) (f : FzA K c H xs ds) (hb : c b = .frz) (hy : H b = some (.lst ys)) (g : FzA K c H ys es) : ItR K c H (Itz K a b) (pairsD ds es) := by
  intro i c1 H1 S U
  have h1 : H1 a = some (.lst xs) := by rw [((S.at_ a (t a ha)).2.1 ha).2]; exact hx
  have h2 : H1 b = some (.lst ys) := by rw [((S.at_ b (t b hb)).2.1 hb).2]; exact hy
  have f1 := f.mono (S.frz t)
  have g1 := g.mono (S.frz t)
  refine ⟨fun d hd => ?_, fun hn => ⟨xs, ys, SqL.of h1, SqL.of h2, ?_⟩⟩
  · obtain ⟨x, y, ex, ey, rfl⟩ := pairs_get hd
    obtain ⟨v, v1, v2⟩ := f1.getD ex
    obtain ⟨w, w1, w2⟩ := g1.getD ey
    refine ⟨⟨xs, ys, v, w, SqL.of h1, SqL.of h2, v1, w1⟩, fun z H2 ⟨T, x', y', e1, e2, e3, e4, e5⟩ => ?_⟩
    subst e1 e3
    have a1 := e4 xs (SqL.of h1); rw [v1] at a1; cases a1
    have a2 := e5 ys (SqL.of h2); rw [w1] at a2; cases a2
    obtain ⟨G, N⟩ := new_tup U e2 (FzA.cons v2 (.cons w2 .nil))
    exact ⟨_, G, N⟩
  · rw [f.length, g.length]; exact pairs_none hn
theorem itR_zipT {a b : Addr} {ds es : List D} (t : ∀ a, c a = .frz → H a ≠ none) (f : Fz K c H (.ref a) (.tup ds)) (g : Fz K c H (.ref b) (.tup es)) : ItR K c H (RZ.ItzT K a b) (pairsD ds es) := by
  intro i c1 H1 S U
  obtain ⟨xs, h1, f1⟩ := SqT.step t S f
  obtain ⟨ys, h2, g1⟩ := SqT.step t S g
  refine ⟨fun d hd => ?_, fun hn => ⟨xs, ys, h1, h2, ?_⟩⟩
  · obtain ⟨x, y, ex, ey, rfl⟩ := pairs_get hd
    obtain ⟨v, v1, v2⟩ := f1.getD ex
    obtain ⟨w, w1, w2⟩ := g1.getD ey
    refine ⟨⟨xs, ys, v, w, h1, h2, v1, w1⟩, fun z H2 ⟨T, x', y', e1, e2, e3, e4, e5⟩ => ?_⟩
    subst e1 e3
    have a1 := e4 xs h1; rw [v1] at a1; cases a1
    have a2 := e5 ys h2; rw [w1] at a2; cases a2
    obtain ⟨G, N⟩ := new_tup U e2 (FzA.cons v2 (.cons w2 .nil))
    exact ⟨_, G, N⟩
  · rw [f1.length, g1.length]; exact pairs_none hn
def zipM (G : M (List Rv)) : M (List D) := G.bind fun rs e => match freezeAll rs e with
  | some ([.lst xs, .lst ys], e') => .ok (pairsD xs ys) e'
  | some ([.tup xs, .tup ys], e') => .ok (pairsD xs ys) e'
  | _ => .stuck
theorem si_zip {ts : List Expr} {kk : Nat} {tpos p pos : Pos} {a b : Expr} {G : M (List Rv)} (hg : Gl X "zip") (hm : X.mg "zip" = none) (h : SA X B W [a, b] G)
    (hs : starEach [a, b] X.env = (false, eval a X.env) :: starEach [b] X.env := by rfl) (hpl : (backTo pos (starEach [b] X.env)).any (·.1) = false := by rfl) : SI X B W (.Tuple ts kk tpos) (.Call (.Name "zip" p) [a, b] [] pos) (zipM G) :=
  ⟨PI.imp (RZ.pi_zipA hg hm h.pa hs hpl) fun σ H R ⟨c, e, Rp, p⟩ => tA.bindI p Rp fun c1 H1 e1 vs rs as R1 S1 V1 p1 => by
    split at p1
    · rename_i xs ys e2 w
      obtain ⟨c2, R2, S2, F2, f2⟩ := freezeAll_ok R1 S1 V1 w
      cases F2 with
      | cons a1 a2 => cases a2 with
        | cons a2 a3 =>
          cases a3
          cases a1 with
          | lst h1 h2 h3 => cases a2 with
            | lst k1 k2 k3 => exact ⟨_, _, _, _, rfl, .inl ⟨SqL.of h2, SqL.of k2, p1 c2 H1 _ R2 S2 (itR_zipL R2.trk h1 h2 h3 k1 k2 k3)⟩⟩
    · rename_i xs ys e2 w
      obtain ⟨c2, R2, S2, F2, f2⟩ := freezeAll_ok R1 S1 V1 w
      cases F2 with
      | cons a1 a2 => cases a2 with
        | cons a2 a3 =>
          cases a3
          obtain ⟨p', xs', rfl, g1, g2⟩ := (Vw.fz a1).tup
          obtain ⟨q', ys', rfl, g3, g4⟩ := (Vw.fz a2).tup
          exact ⟨p', q', xs', ys', rfl, .inr ⟨g1, g3, p1 c2 H1 _ R2 S2 (itR_zipT R2.trk a1 a2)⟩⟩
    · exact p1.elim⟩

/-! ### comprehensions -/
structure STs (X : Cx) (B : Bs) (W : WX) (ifs : List Expr) (m : M Bool) : Prop where
  pt : PTs X ifs (tT X.K B W m)
def yesT : M Bool := M.pure true
theorem PTs.imp {ifs : List Expr} {t t' : TT} (h : PTs X ifs t) (i : ∀ σ H Q, t' σ H Q → t σ H Q) : PTs X ifs t' := ⟨fun pins s σ H Q I q => h.run pins s σ H Q I (i σ H Q q)⟩
theorem sts_nil : STs X B W [] yesT := ⟨PTs.imp pts_nil fun σ H Q ⟨c, e, R, p⟩ => p c H R Step.refl⟩
theorem sts_one {cc : Expr} {T : M Bool} (h : STt X B W cc T) : STs X B W [cc] T := ⟨pts_one h.pt⟩
def wipeE (e : Ev) : List Nat → Ev
  | [] => e
  | v :: vs => (wipeE e vs).set v .un
def slFz (e : Ev) (v : Nat) : Bool := match e[v]? with
  | some (.own _) => false
  | some (.io _) => false
  | _ => true
def restE (e0 e : Ev) : List Nat → Ev
  | [] => e
  | v :: vs => (restE e0 e vs).set v (e0.getD v .un)
def lcLoop (vs : List Nat) (g : TGf) (T : M Bool) (A : M Rv) : List D → List D → M (List D)
  | [], acc => M.pure acc
  | d :: ds, acc => fun e => match g d e with
    | some e1 => match T e1 with
      | .ok true e2 => match A e2 with
        | .ok r e3 => match freeze r e3 with
          | some (x, e4) => if acc.length < sizeLine then lcLoop vs g T A ds (acc ++ [x]) (wipeE e4 vs) else .stuck
          | none => .stuck
        | _ => .stuck
      | .ok false e2 => lcLoop vs g T A ds acc (wipeE e2 vs)
      | _ => .stuck
    | none => .stuck
def lcM (vs : List Nat) (g : TGf) (T : M Bool) (A : M Rv) (I : M (List D)) : M Rv := I.bind fun ds e => if vs.all (slFz e) then match lcLoop vs g T A ds [] (wipeE e vs) with
  | .ok acc e2 => .ok (.own (.lst acc)) (restE e e2 vs)
  | _ => .stuck
  else .stuck
theorem wipeE_len (vs : List Nat) : (wipeE e vs).length = e.length := by
  induction vs with
  | nil => rfl
  | cons v vs ih => simp [wipeE, ih]
theorem wipeE_at {j : Nat} {s : Sl} : ∀ {vs : List Nat}, (wipeE e vs)[j]? = some s → (s = .un ∧ j ∈ vs) ∨ (e[j]? = some s ∧ j ∉ vs)
  | [], h => .inr ⟨h, by simp⟩
  | v :: vs, h => by
    unfold wipeE at h
    by_cases q : v = j
    · subst q
      rw [List.getElem?_set] at h
      simp at h
      exact .inl ⟨h.2.symm, by simp⟩
    · rw [List.getElem?_set_ne q] at h
      rcases wipeE_at h with ⟨a, b⟩ | ⟨a, b⟩
      · exact .inl ⟨a, by simp [b]⟩
      · exact .inr ⟨a, by simp [b, Ne.symm q]⟩
theorem wipe_at {j : Nat} : ∀ {vs : List Nat}, (wipe σ vs)[j]? = if j ∈ vs then (if j < σ.length then some none else none) else σ[j]?
  | [] => by simp [wipe]
  | v :: vs => by
    unfold wipe
    by_cases q : v = j
    · subst q
      rw [List.getElem?_set]
      simp [wipe_length]
    · rw [List.getElem?_set_ne q, wipe_at]
      have n : j ≠ v := Ne.symm q
      simp [n]
theorem Rep.wipe {vs : List Nat} {σ' : Sg} (R : Rep K B c σ H e) (hl : σ'.length = σ.length) (hs : ∀ j, j ∉ vs → σ'[j]? = σ[j]?) : Rep K B c (L2.wipe σ' vs) H (wipeE e vs) where
  unt := R.unt
  keep := R.keep
  new := R.new
  io := R.io
  len := by rw [wipe_length, wipeE_len, hl]; exact R.len
  slot j s h := by
    rcases wipeE_at h with ⟨rfl, hj⟩ | ⟨h, hj⟩
    · have l : j < σ'.length := by
        have := (List.getElem?_eq_some_iff.mp h).1
        rw [wipeE_len] at this
        rw [hl, R.len]; exact this
      exact ⟨none, by rw [wipe_at, if_pos hj, if_pos l], trivial⟩
    · obtain ⟨w, h1, h2⟩ := R.slot j s h
      exact ⟨w, by rw [wipe_at, if_neg hj, hs j hj]; exact h1, h2⟩
theorem restE_len {e0 : Ev} (vs : List Nat) : (restE e0 e vs).length = e.length := by
  induction vs with
  | nil => rfl
  | cons v vs ih => simp [restE, ih]
theorem restE_at {e0 : Ev} {j : Nat} {s : Sl} (hl : e0.length = e.length) : ∀ {vs : List Nat}, (restE e0 e vs)[j]? = some s → (e0[j]? = some s ∧ j ∈ vs) ∨ (e[j]? = some s ∧ j ∉ vs)
  | [], h => .inr ⟨h, by simp⟩
  | v :: vs, h => by
    unfold restE at h
    by_cases q : v = j
    · subst q
      rw [List.getElem?_set] at h
      simp [restE_len] at h
      refine .inl ⟨?_, by simp⟩
      obtain ⟨l, h⟩ := h
      have l2 : v < e0.length := by omega
      rw [List.getElem?_eq_getElem l2] at h ⊢
      simpa using h
    · rw [List.getElem?_set_ne q] at h
      rcases restE_at hl h with ⟨a, b⟩ | ⟨a, b⟩
      · exact .inl ⟨a, by simp [b]⟩
      · exact .inr ⟨a, by simp [b, Ne.symm q]⟩
/-- the slots ahead of the block stand again -/
theorem Rep.rest {vs : List Nat} {e0 : Ev} (R0 : Rep K B c0 σ H0 e0) (hv : vs.all (slFz e0) = true) (f : Frz c0 H0 c H) (R : Rep K B c (L2.wipe σ vs) H e) : Rep K B c σ H (restE e0 e vs) where
  unt := R.unt
  keep := R.keep
  new := R.new
  io := R.io
  len := by rw [restE_len, ← R.len, wipe_length]
  slot j s h := by
    have hl : e0.length = e.length := by rw [← R0.len, ← R.len, wipe_length]
    rcases restE_at hl h with ⟨h, hj⟩ | ⟨h, hj⟩
    · obtain ⟨w, h1, h2⟩ := R0.slot j s h
      refine ⟨w, h1, ?_⟩
      have := List.all_eq_true.mp hv j hj
      unfold slFz at this
      rw [h] at this
      cases s with
      | un => trivial
      | fz d => obtain ⟨v, a1, a2⟩ := h2; exact ⟨v, a1, a2.mono f⟩
      | own o => simp at this
      | io o => simp at this
    · obtain ⟨w, h1, h2⟩ := R.slot j s h
      rw [wipe_at, if_neg hj] at h1
      exact ⟨w, h1, h2⟩
theorem wipe_eq {σ' : Sg} {vs is : List Nat} (hl : σ'.length = (wipe σ vs).length) (hi : ∀ i ∈ is, i ∈ vs) (hs : ∀ j, j ∉ is → σ'[j]? = (wipe σ vs)[j]?) : wipe σ' vs = wipe σ vs := by
  refine List.ext_getElem? fun j => ?_
  rw [wipe_at, wipe_at]
  split
  · rw [hl, wipe_length]
  · rename_i hj
    rw [hs j (fun z => hj (hi j z)), wipe_at, if_neg hj]
/-- over any source -/
theorem tLc_of {vs is : List Nat} {g : TGf} {T : M Bool} {A : M Rv} {I : M (List D)} {Q : VK} (hi : ∀ i ∈ is, i ∈ vs) (h : tE K B W (lcM vs g T A I) σ H Q) :
    tLc (tI K B W I) (tG K B is g) (tT K B (fun _ _ _ _ => False) T) (tE K B (fun _ _ _ _ => False) A) vs σ H Q := by
  obtain ⟨c, e, R, p⟩ := h
  refine ⟨c, e, R, ?_⟩
  unfold lcM M.bind at p
  cases q : I e with
  | stuck => rw [q] at p; exact p.elim
  | exc x e1 => rw [q] at p; exact p
  | ok ds e1 =>
    rw [q] at p
    dsimp only at p
    intro c1 H1 J R1 S1 hJ D hD
    split at p
    · rename_i hv
      cases q2 : lcLoop vs g T A ds [] (wipeE e1 vs) with
      | stuck => rw [q2] at p; exact p.elim
      | exc x e2 => rw [q2] at p; exact p.elim
      | ok acc e2 =>
        rw [q2] at p
        dsimp only at p
        -- the invariant
        let Pv : Nat → Hp → Prop := fun i Hi => ∃ ci ei accV accD, Rep K B ci (L2.wipe σ vs) Hi ei ∧ Step c1 H1 ci Hi ∧ Hi D = some (.lst accV) ∧ ci D = .oth ∧ FzA K ci Hi accV accD ∧ lcLoop vs g T A (ds.drop i) accD ei = .ok acc e2
        have hDn : H D = none := Classical.byContradiction fun z => (S1.at_ D z).1 hD
        refine ⟨fun i m Hi => Pv i Hi ∧ i + m = ds.length, ⟨ds.length, ⟨cset c1 D .oth, wipeE e1 vs, [], [], ?_, ?_, upd_same, cset_same, .nil, q2⟩, by omega⟩, fun i m Hi ⟨⟨ci, ei, accV, accD, Ri, Si, hDi, cDi, fi, li⟩, him⟩ => ?_⟩
        · have g1 : Gr c1 H1 (cset c1 D .oth) (upd H1 D (.lst [])) := Gr.new R1.unt hD (by simp)
          exact (R1.wipe (σ' := σ) rfl fun j _ => rfl).grow g1
        · exact (Gr.new (k := .oth) R1.unt hD (by simp)).step
        · cases w : ds[i]? with
          | none =>
            have hlen : ds.length ≤ i := List.getElem?_eq_none_iff.mp w
            have hdrop : ds.drop i = [] := List.drop_eq_nil_of_le hlen
            rw [hdrop] at li
            simp only [lcLoop, M.pure] at li
            injection li with l1 l2
            subst l1 l2
            refine .inl ⟨(hJ i ci Hi Si Ri.unt).2 w, ?_⟩
            refine p ci Hi _ (R1.rest hv (Si.frz R1.trk) Ri) (S1.trans Si) ⟨D, rfl, cDi, hDn, accV, hDi, fi⟩
          | some d =>
            obtain ⟨hgo, hyld⟩ := (hJ i ci Hi Si Ri.unt).1 d w
            have hlt : i < ds.length := (List.getElem?_eq_some_iff.mp w).1
            have hdrop : ds.drop i = d :: ds.drop (i + 1) := by
              rw [List.drop_eq_getElem_cons hlt]
              congr 1
              exact (List.getElem?_eq_some_iff.mp w).2
            rw [hdrop] at li
            simp only [lcLoop] at li
            refine .inr ⟨hgo, Pv (i + 1), fun H' hp => ⟨m - 1, by omega, hp, by omega⟩, fun x H' hy => ?_⟩
            obtain ⟨cy, gy, fy⟩ := hyld x H' hy
            have Ry := Ri.grow gy
            have hDy : H' D = some (.lst accV) := by rw [(gy.gr D (by rw [hDi]; simp)).2]; exact hDi
            have cDy : cy D = .oth := (gy.gr D (by rw [hDi]; simp)).1.trans cDi
            have fiy : FzA K cy H' accV accD := fi.mono (gy.step.frz Ri.trk)
            refine ⟨cy, ei, d, Ry, fy, ?_⟩
            cases w1 : g d ei with
            | none => rw [w1] at li; cases li
            | some e3 =>
              rw [w1] at li
              dsimp only at li
              intro σ2 R2 l2 k2
              refine ⟨wipe_eq l2 hi k2, cy, e3, R2, ?_⟩
              have S2 : Step c1 H1 cy H' := Si.trans gy.step
              have back : ∀ {c4 H4 e4}, Rep K B c4 σ2 H4 e4 → Rep K B c4 (L2.wipe σ vs) H4 (wipeE e4 vs) := fun R4 => by
                have := R4.wipe (vs := vs) (σ' := σ2) rfl fun j _ => rfl
                rwa [wipe_eq l2 hi k2] at this
              cases w2 : T e3 with
              | stuck => rw [w2] at li; cases li
              | exc x e4 => rw [w2] at li; cases li
              | ok b e4 =>
                rw [w2] at li
                intro c4 H4 R4 S4
                obtain ⟨z1, z2, z3, z4⟩ := S4.at_ D (by rw [hDy]; simp)
                obtain ⟨o1, o2⟩ := z3 cDy
                cases b with
                | false =>
                  dsimp only at li
                  rw [if_neg (by simp)]
                  exact ⟨c4, _, accV, accD, back R4, S2.trans S4, o2.trans hDy, o1, fiy.mono (S4.frz Ry.trk), li⟩
                | true =>
                  dsimp only at li
                  rw [if_pos rfl]
                  refine ⟨c4, e4, R4, ?_⟩
                  cases w3 : A e4 with
                  | stuck => rw [w3] at li; cases li
                  | exc x e5 => rw [w3] at li; cases li
                  | ok r e5 =>
                    rw [w3] at li
                    dsimp only at li
                    intro c5 H5 y R5 S5 v5
                    cases w4 : freeze r e5 with
                    | none => rw [w4] at li; cases li
                    | some pr =>
                      obtain ⟨dx, e6⟩ := pr
                      rw [w4] at li
                      dsimp only at li
                      split at li
                      · rename_i hz
                        obtain ⟨c6, R6, S6, F6, f6, o6⟩ := freeze_ok R5 S5 v5 w4
                        have hD4 : H4 D ≠ none := by rw [o2, hDy]; simp
                        obtain ⟨y1, y2, y3, y4⟩ := S6.at_ D hD4
                        obtain ⟨u1, u2⟩ := y3 o1
                        have hD5 : H5 D = some (.lst accV) := u2.trans (o2.trans hDy)
                        refine ⟨accV, hD5, by rw [fi.length]; exact hz, c6, wipeE e6 vs, accV ++ [y], accD ++ [dx], ?_, ?_, upd_same, u1, ?_, li⟩
                        · have R7 := back R6
                          have nf : ∀ b, c6 b = .frz → b ≠ D := fun b hb z => by rw [z, u1] at hb; cases hb
                          refine ⟨fun b hb => ?_, fun b hb => ?_, R7.new, R7.io, R7.len, fun j s h => ?_⟩
                          · by_cases z : b = D
                            · rw [z, upd_same] at hb; cases hb
                            · rw [upd_ne z] at hb; exact R7.unt b hb
                          · by_cases z : b = D
                            · rw [z, upd_same]; simp
                            · rw [upd_ne z]; exact R7.keep b hb
                          · obtain ⟨ww, g1, g2⟩ := R7.slot j s h
                            exact ⟨ww, g1, g2.mono (fun b hb => ⟨hb, fun _ => upd_ne (nf b hb)⟩) fun b hb hc => ⟨rfl, upd_ne fun z => by rw [z, u1] at hc; rcases hc with hc | hc <;> cases hc⟩⟩
                        · have S7 : Step c1 H1 c6 H5 := S2.trans (S4.trans S6)
                          refine ⟨fun b hb => ?_⟩
                          obtain ⟨s1, s2, s3, s4⟩ := S7.at_ b hb
                          have nb : b ≠ D := fun z => hb (by rw [z]; exact hD)
                          rw [upd_ne nb]
                          exact ⟨s1, s2, s3, s4⟩
                        · have nf : ∀ b, c6 b = .frz → b ≠ D := fun b hb z => by rw [z, u1] at hb; cases hb
                          have f7 : Frz cy H' c6 (upd H5 D (.lst (accV ++ [y]))) := fun b hb => by
                            obtain ⟨r1, r2, r3, r4⟩ := (S4.trans S6).at_ b (Ry.trk b hb)
                            exact ⟨(r2 hb).1, fun _ => by rw [upd_ne (nf b (r2 hb).1)]; exact (r2 hb).2⟩
                          exact (fiy.mono f7).append (.cons (F6.mono fun b hb => ⟨hb, fun _ => upd_ne (nf b hb)⟩) .nil)
                      · cases li
    · exact p.elim
end
end Sc

set_option Elab.async false
set_option linter.all false
set_option autoImplicit false
set_option maxRecDepth 100000
set_option maxHeartbeats 4000000
namespace Sc
open PySem PySem.Spec PyProof.Rows L2
abbrev WF : WX := fun _ _ _ _ => False
section
variable {X : Cx} {K : PySem.W.Frag} {B : Bs} {W : WX} {σ : Sg} {c c' c2 c0 : CM} {H H' H2 Hs H0 : Hp} {e e' : Ev}
theorem se_lc {elt tg iter : Expr} {ifs : List Expr} {scope : Scope} {own : List (Str × Nat)} {is vs : List Nat} {pos : Pos} {I : M (List D)} {g : TGf} {T : M Bool} {A : M Rv} (hc : X.calm = true) (hN : X.N.Nodup) (hi : SI X B W tg iter I) (ok : BlkOk X.N X.env.scope scope own) (hv : own.map (·.2) = vs) (his : ∀ i ∈ is, i ∈ vs)
    (hg : ∀ (s : Shared) (H : Hp) (C : Addr) (cl : List (Str × Addr)) (fp : List Addr), SG (X.blk s H scope (compEnvC scope cl C X.env) fp) B tg is g) (ht : ∀ (s : Shared) (H : Hp) (C : Addr) (cl : List (Str × Addr)) (fp : List Addr), STs (X.blk s H scope (compEnvC scope cl C X.env) fp) B WF ifs T)
    (he : ∀ (s : Shared) (H : Hp) (C : Addr) (cl : List (Str × Addr)) (fp : List Addr), SE (X.blk s H scope (compEnvC scope cl C X.env) fp) B WF elt A) (hs : ∀ x, foldedSetIterable iter X.env x = pure x := by intro _; rfl) :
    SE X B W (.ListComp elt [⟨tg, iter, ifs, 0⟩] scope pos) (lcM vs g T A I) := by
  subst hv
  exact ⟨PE.imp (pe_lc hc hN hi.pi ok (fun s H C cl fp => (hg s H C cl fp).pg) (fun s H C cl fp => (ht s H C cl fp).pt) (fun s H C cl fp => (he s H C cl fp).pe) hs) fun σ H Q h => tLc_of his h⟩

/-! ### statements -/
inductive Fl where
  | nx | bk | ct | rt (r : Rt)
def PostS (K : PySem.W.Frag) (B : Bs) (W : WX) (c : CM) (H : Hp) (r : Rs Fl) (Dn : Ends) : Prop := match r with
  | .ok .nx e' => ∀ c' σ' H', Rep K B c' σ' H' e' → Step c H c' H' → Dn.nx σ' H'
  | .ok .bk e' => ∀ c' σ' H', Rep K B c' σ' H' e' → Step c H c' H' → Dn.bk σ' H'
  | .ok .ct e' => ∀ c' σ' H', Rep K B c' σ' H' e' → Step c H c' H' → Dn.ct σ' H'
  | .ok (.rt r) e' => ∀ c' σ' H' v, Rep K B c' σ' H' e' → Step c H c' H' → RtR B.hp K c' H' v r → Dn.rt v H'
  | .exc x e' => ∀ c' σ' H' cls dd, Rep K B c' σ' H' e' → Step c H c' H' → XcR K c' H' x cls dd → W cls dd σ' H'
  | .stuck => False
def tS (K : PySem.W.Frag) (B : Bs) (W : WX) (m : M Fl) : TS := fun Dn σ H => ∃ c e, Rep K B c σ H e ∧ PostS K B W c H (m e) Dn
structure SS (X : Cx) (B : Bs) (W : WX) (st : Stmt) (m : M Fl) : Prop where
  ps : PS X st (tS X.K B W m)
structure SB (X : Cx) (B : Bs) (W : WX) (st : List Stmt) (m : M Fl) : Prop where
  pss : PSs X st (tS X.K B W m)
theorem PostS.step {r : Rs Fl} {Dn : Ends} (S : Step c H c' H') (h : PostS K B W c H r Dn) : PostS K B W c' H' r Dn := by
  cases r with
  | ok f e' => cases f with
    | nx => exact fun c2 σ2 H2 R S2 => h c2 σ2 H2 R (S.trans S2)
    | bk => exact fun c2 σ2 H2 R S2 => h c2 σ2 H2 R (S.trans S2)
    | ct => exact fun c2 σ2 H2 R S2 => h c2 σ2 H2 R (S.trans S2)
    | rt r => exact fun c2 σ2 H2 v R S2 rr => h c2 σ2 H2 v R (S.trans S2) rr
  | exc x e' => exact fun c2 σ2 H2 cls dd R S2 rx => h c2 σ2 H2 cls dd R (S.trans S2) rx
  | stuck => exact h
theorem tE.bindS {A : M Rv} {f : Rv → M Fl} {Dn : Ends} {t : V → Hp → Prop} (h : PostS K B W c H ((A.bind f) e) Dn) (R : Rep K B c σ H e)
    (hf : ∀ c' H' e' v r, Rep K B c' σ H' e' → Step c H c' H' → RvR H K c' σ H' v r → PostS K B W c H (f r e') Dn → t v H') : tE K B W A σ H t := by
  refine ⟨c, e, R, ?_⟩
  unfold M.bind at h
  cases q : A e with
  | ok r e' => rw [q] at h; exact fun c' H' v R' S rv => hf c' H' e' v r R' S rv h
  | exc x e' => rw [q] at h; exact fun c' H' cls dd R' S rx => h c' σ H' cls dd R' S rx
  | stuck => rw [q] at h; exact h
theorem tT.bindS {A : M Bool} {f : Bool → M Fl} {Dn : Ends} {t : Bool → Hp → Prop} (h : PostS K B W c H ((A.bind f) e) Dn) (R : Rep K B c σ H e)
    (hf : ∀ c' H' e' b, Rep K B c' σ H' e' → Step c H c' H' → PostS K B W c' H' (f b e') Dn → t b H') : tT K B W A σ H t := by
  refine ⟨c, e, R, ?_⟩
  unfold M.bind at h
  cases q : A e with
  | ok r e' => rw [q] at h; exact fun c' H' R' S => hf c' H' e' r R' S (h.step S)
  | exc x e' => rw [q] at h; exact fun c' H' cls dd R' S rx => h c' σ H' cls dd R' S rx
  | stuck => rw [q] at h; exact h
def skipM : M Fl := M.pure .nx
def seqM (a b : M Fl) : M Fl := fun e => match a e with
  | .ok .nx e1 => b e1
  | r => r
variable {st : Stmt} {rest : List Stmt} {m m2 : M Fl}
theorem sb_nil : SB X B W [] skipM := ⟨PSs.imp pss_nil fun Dn σ H ⟨c, e, R, p⟩ => p c σ H R Step.refl⟩
theorem sb_one (h : SS X B W st m) : SB X B W [st] m := ⟨pss_one h.ps⟩
theorem sb_cons (h : SS X B W st m) (hr : SB X B W rest m2) : SB X B W (st :: rest) (seqM m m2) :=
  ⟨PSs.imp (pss_cons h.ps hr.pss) fun Dn σ H ⟨c, e, R, p⟩ => by
    refine ⟨c, e, R, ?_⟩
    unfold seqM at p
    cases q : m e with
    | stuck => rw [q] at p; exact p
    | exc x e1 => rw [q] at p; exact p
    | ok f e1 =>
      rw [q] at p
      cases f with
      | nx => exact fun c1 σ1 H1 R1 S1 => ⟨c1, e1, R1, p.step S1⟩
      | bk => exact p
      | ct => exact p
      | rt r => exact p⟩
theorem ss_pass {pos : Pos} : SS X B W (.Pass pos) skipM := ⟨PS.imp ps_pass fun Dn σ H ⟨c, e, R, p⟩ => p c σ H R Step.refl⟩
def breakM : M Fl := M.pure .bk
def contM : M Fl := M.pure .ct
theorem ss_break {pos : Pos} : SS X B W (.Break pos) breakM := ⟨PS.imp ps_break fun Dn σ H ⟨c, e, R, p⟩ => p c σ H R Step.refl⟩
theorem ss_cont {pos : Pos} : SS X B W (.Continue pos) contM := ⟨PS.imp ps_continue fun Dn σ H ⟨c, e, R, p⟩ => p c σ H R Step.refl⟩
def exprM (A : M Rv) : M Fl := A.bind fun _ => M.pure .nx
theorem ss_expr {ex : Expr} {pos : Pos} {A : M Rv} (h : SE X B W ex A) (hs : swapsWith ex none pos.line X.env = pure false := by rfl) : SS X B W (.Expr ex pos) (exprM A) :=
  ⟨PS.imp (ps_expr h.pe hs) fun Dn σ H ⟨c, e, R, p⟩ => tE.bindS p R fun c1 H1 e1 v r R1 S1 _ p1 => p1 c1 σ H1 R1 S1⟩
/-! names -/
theorem Rep.own_set {i : Nat} {a : Addr} {o : O} (R : Rep K B c σ H e) (hc : c a = .oth) (hB : B.hp a = none) (ha : OAt K c H a o) (hi : i < e.length) : Rep K B (cset c a (.own i)) (σ.set i (some (.ref a))) H (e.set i (.own o)) := by
  have f : Frz c H (cset c a (.own i)) H := frz_recol (.inl (by rw [hc]; simp))
  refine ⟨fun b hb => ?_, R.keep, fun b j hb => ?_, fun b j hb => ?_, by rw [List.length_set, List.length_set]; exact R.len, fun j s h => ?_⟩
  · have n : b ≠ a := fun z => ha.some (by rw [← z]; exact hb)
    rw [cset_ne n]; exact R.unt b hb
  · by_cases q : b = a
    · rw [q]; exact hB
    · rw [cset_ne q] at hb; exact R.new b j hb
  · by_cases q : b = a
    · rw [q, cset_same] at hb; cases hb
    · rw [cset_ne q] at hb; exact R.io b j hb
  · by_cases q : i = j
    · subst q
      rw [List.getElem?_set_self hi] at h
      cases h
      have l : i < σ.length := by rw [R.len]; exact hi
      exact ⟨some (.ref a), by rw [List.getElem?_set_self l], a, rfl, cset_same, ha.mono f rfl⟩
    · rw [List.getElem?_set_ne q] at h
      obtain ⟨w, h1, h2⟩ := R.slot j s h
      refine ⟨w, by rw [List.getElem?_set_ne q]; exact h1, h2.mono f fun b _ z => ⟨cset_ne fun y => ?_, rfl⟩⟩
      rw [y, hc] at z
      rcases z with z | z <;> cases z
def setM (i : Nat) (A : M Rv) : M Fl := A.bind fun r e => if i < e.length then match r with
  | .own o => .ok .nx (e.set i (.own o))
  | r => match freeze r e with
    | some (d, e1) => .ok .nx (e1.set i (.fz d))
    | none => .stuck
  else .stuck
theorem freeze_len {r : Rv} {d : D} (h : freeze r e = some (d, e')) : e'.length = e.length := by
  cases r with
  | fz d => cases h; rfl
  | own o => cases h; rfl
  | slot j =>
    simp only [freeze] at h
    cases q : e[j]? with
    | none => simp [q] at h
    | some s =>
      cases s <;> simp [q] at h
      · obtain ⟨_, rfl⟩ := h; rfl
      · obtain ⟨_, rfl⟩ := h; exact List.length_set
theorem gName_of {i : Nat} {v : V} {r : Rv} {Dn : Ends} (R0 : Rep K B c0 σ H0 e') (R : Rep K B c σ H e) (S : Step c0 H0 c H) (h : RvR H0 K c σ H v r)
    (p : PostS K B W c0 H0 ((fun (r : Rv) (e : Ev) => if i < e.length then match r with
      | .own o => .ok .nx (e.set i (.own o))
      | r => match freeze r e with
        | some (d, e1) => .ok .nx (e1.set i (.fz d))
        | none => .stuck
      else .stuck) r e) Dn) : gName i v σ H Dn.nx := by
  dsimp only at p
  split at p
  · rename_i hi
    have fin : ∀ {d : D} {e1 : Ev}, freeze r e = some (d, e1) → PostS K B W c0 H0 (.ok .nx (e1.set i (.fz d))) Dn → gName i v σ H Dn.nx := by
      intro d e1 w p
      obtain ⟨c1, R1, S1, F1, f1, o1⟩ := freeze_ok R S h w
      exact p c1 _ H (R1.set_slot (s := .fz d) ⟨v, rfl, F1⟩ (by rw [freeze_len w]; exact hi)) S1
    cases r with
    | own o =>
      obtain ⟨a, rfl, h2, h3, h4⟩ := h
      have hB : B.hp a = none := Classical.byContradiction fun z => R0.keep a z h3
      exact p _ _ H (R.own_set h2 hB h4 hi) (S.recolF fun z => absurd h3 z)
    | fz d => exact fin (d := d) (e1 := e) rfl p
    | slot j =>
      cases w : freeze (.slot j) e with
      | none => dsimp only at p; rw [w] at p; exact p.elim
      | some pr => obtain ⟨d, e1⟩ := pr; dsimp only at p; rw [w] at p; exact fin w p
  · exact p.elim
theorem ss_set {i : Nat} {x : Str} {ex : Expr} {pos pos' : Pos} {A : M Rv} (hN : X.N.Nodup) (hi : X.N[i]? = some x) (hx : Loc X.env.scope x) (h : SE X B W ex A) (hs : swapsWith ex (some (.Name x pos')) pos.line X.env = pure false := by rfl) (hf : X.fn x = true ∨ X.env.scope.names.lookup x = some .local := by first | exact .inl rfl | exact .inr rfl | assumption) :
    SS X B W (.Assign [.Name x pos'] ex pos) (setM i A) :=
  ⟨PS.imp (ps_set hN hi hx h.pe hs hf) fun Dn σ H ⟨c, e, R, p⟩ => tE.bindS p R fun c1 H1 e1 v r R1 S1 rv p1 => gName_of R R1 S1 rv p1⟩
theorem ss_setLc {i : Nat} {y : Str} {py : Pos} {elt tg iter : Expr} {ifs : List Expr} {scope : Scope} {own : List (Str × Nat)} {is vs : List Nat} {pos spos : Pos} {I : M (List D)} {g : TGf} {T : M Bool} {A : M Rv} (hc : X.calm = true) (hN : X.N.Nodup) (hy : X.N[i]? = some y) (hyl : X.env.scope.names.lookup y = some .local)
    (hsw : swapsWith (.ListComp elt [⟨tg, iter, ifs, 0⟩] scope pos) (some (.Name y py)) spos.line X.env = pure true) (hi : SI X B W tg iter I) (ok : BlkOk X.N X.env.scope scope own) (hv : own.map (·.2) = vs) (his : ∀ i ∈ is, i ∈ vs)
    (hg : ∀ (s : Shared) (H : Hp) (C : Addr) (cl : List (Str × Addr)) (fp : List Addr), SG (X.blk s H scope (compEnvC scope cl C X.env) fp) B tg is g) (ht : ∀ (s : Shared) (H : Hp) (C : Addr) (cl : List (Str × Addr)) (fp : List Addr), STs (X.blk s H scope (compEnvC scope cl C X.env) fp) B WF ifs T)
    (he : ∀ (s : Shared) (H : Hp) (C : Addr) (cl : List (Str × Addr)) (fp : List Addr), SE (X.blk s H scope (compEnvC scope cl C X.env) fp) B WF elt A) (hs : ∀ x, foldedSetIterable iter X.env x = pure x := by intro _; rfl) :
    SS X B W (.Assign [.Name y py] (.ListComp elt [⟨tg, iter, ifs, 0⟩] scope pos) spos) (setM i (lcM vs g T A I)) := by
  subst hv
  exact ⟨PS.imp (ps_setLc hc hN hy hyl hsw hi.pi ok (fun s H C cl fp => (hg s H C cl fp).pg) (fun s H C cl fp => (ht s H C cl fp).pt) (fun s H C cl fp => (he s H C cl fp).pe) hs) fun Dn σ H ⟨c, e, R, p⟩ =>
    tLc_of his (tE.bindS (A := lcM (own.map (·.2)) g T A I) p R fun c1 H1 e1 v r R1 S1 rv p1 => gName_of R R1 S1 rv p1)⟩
/-! unpacking -/
def asgM (g : TGf) (A : M Rv) : M Fl := A.bind fun r e => match freeze r e with
  | some (d, e1) => match g d e1 with
    | some e2 => .ok .nx e2
    | none => .stuck
  | none => .stuck
theorem ss_asg {tg ex : Expr} {pos : Pos} {A : M Rv} {is vs : List Nat} {g : TGf} (h : SE X B W ex A) (hg : SG X B tg is g) (hs : swapsWithSole [tg] ex pos.line X.env = pure false := by rfl) (hw : swappedStores [tg] ex X.env = pure none := by rfl)
    (h1 : (assignEach [tg] X.env).map (·.2) = [assign tg X.env] := by rfl) : SS X B W (.Assign [tg] ex pos) (asgM g A) :=
  ⟨PS.imp (ps_asg h.pe hg.pg hs hw h1) fun Dn σ H ⟨c, e, R, p⟩ => tE.bindS p R fun c1 H1 e1 v r R1 S1 rv p1 => by
    cases w : freeze r e1 with
    | none => rw [w] at p1; exact p1.elim
    | some pr =>
      obtain ⟨d, e2⟩ := pr
      rw [w] at p1
      dsimp only at p1
      obtain ⟨c2, R2, S2, F2, f2, o2⟩ := freeze_ok R1 S1 rv w
      refine ⟨c2, e2, d, R2, F2, ?_⟩
      cases w2 : g d e2 with
      | none => rw [w2] at p1; exact p1.elim
      | some e3 => rw [w2] at p1; exact fun σ' R' _ _ => p1 c2 σ' H1 R' S2⟩
/-! if -/
def ifS (T : M Bool) (a b : M Fl) : M Fl := T.bind fun k => if k then a else b
theorem ss_if {cc : Expr} {a b : List Stmt} {pos : Pos} {T : M Bool} (hc : STt X B W cc T) (ha : SB X B W a m) (hb : SB X B W b m2) : SS X B W (.If cc a b pos) (ifS T m m2) :=
  ⟨PS.imp (ps_if hc.pt ha.pss hb.pss) fun Dn σ H ⟨c, e, R, p⟩ => tT.bindS p R fun c1 H1 e1 k R1 S1 p1 => by
    cases k with
    | true => rw [if_pos rfl]; exact ⟨c1, e1, R1, p1⟩
    | false => rw [if_neg (by simp)]; exact ⟨c1, e1, R1, p1⟩⟩
/-! return -/
def retM (A : M Rv) : M Fl := A.bind fun r e => match r with
  | .fz d => .ok (.rt (.fz d)) e
  | .own o => .ok (.rt (.own o)) e
  | .slot i => match e[i]? with
    | some (.own o) => .ok (.rt (.own o)) (e.set i .un)
    | _ => .stuck
theorem ss_ret {ex : Expr} {pos : Pos} {A : M Rv} (h : SE X B W ex A) : SS X B W (.Return (some ex) pos) (retM A) :=
  ⟨PS.imp (ps_ret h.pe) fun Dn σ H ⟨c, e, R, p⟩ => tE.bindS p R fun c1 H1 e1 v r R1 S1 rv p1 => by
    cases r with
    | fz d => exact p1 c1 σ H1 v R1 S1 rv
    | own o =>
      obtain ⟨a, rfl, h2, h3, h4⟩ := rv
      exact p1 c1 σ H1 _ R1 S1 ⟨a, rfl, h2, Classical.byContradiction fun z => R.keep a z h3, h4⟩
    | slot i =>
      dsimp only at p1
      split at p1
      · rename_i o q
        obtain ⟨a, ea, k2, k3⟩ := slot_at R1 q rv
        cases ea
        have f : Frz c1 H1 (cset c1 a .oth) H1 := frz_recol (.inl (by rw [k2]; simp))
        exact p1 _ σ H1 _ (R1.un_recol k2 k3.some (fun i => by simp)) (S1.recolF fun _ => ⟨i, k2⟩) ⟨a, rfl, cset_same, R1.new a i k2, k3.mono f rfl⟩
      · exact p1.elim⟩
def retN : M Fl := M.pure (.rt (.fz .non))
theorem ss_retN {pos : Pos} : SS X B W (.Return none pos) retN := ⟨PS.imp ps_retN fun Dn σ H ⟨c, e, R, p⟩ => p c σ H .non R Step.refl .non⟩
/-! raise X('..') -/
def raiseM (x : Str) : M Fl := fun e => .exc ⟨x, none⟩ e
theorem ss_raise {x msg : Str} {j : Nat} {p p2 pos pos2 : Pos} (hc : X.calm = true) (tk : Takes X W) (q : PySem.W.excIn X.K (He.ga X.K x) He.veBase "ValueError.__new__" = true) (gC : X.mg x = some (.ref (He.ga X.K x))) (kC : PySem.W.keepIn X.K (.ref (He.ga X.K x)) = true) (r : Raises X (.ref (He.ga X.K x))) (hg : Gl X x)
    (hdb : (x == ("__debug__" : Str)) = false := by decide) : SS X B W (.Raise (some (.Call (.Name x p) [.Constant (.str msg) j p2] [] pos)) none pos2) (raiseM x) :=
  ⟨PS.imp (ps_raise hc tk (pmk_own PySem.F.excBase_ValueError q gC kC r hg hdb)) fun Dn σ H ⟨c, e, R, p⟩ => p c σ H _ none R Step.refl ⟨rfl, trivial⟩⟩
end
end Sc

set_option Elab.async false
set_option linter.all false
set_option autoImplicit false
set_option maxRecDepth 100000
set_option maxHeartbeats 4000000
namespace Sc
open PySem PySem.Spec PyProof.Rows L2
section
variable {X : Cx} {K : PySem.W.Frag} {B : Bs} {W : WX} {σ : Sg} {c c' c2 c0 : CM} {H H' H2 Hs H0 : Hp} {e e' : Ev} {m m2 : M Fl}
/-! ### loops -/
def whileN (T : M Bool) (b : M Fl) : Nat → M Fl
  | 0 => M.stuck
  | n + 1 => fun e => match T e with
    | .ok true e1 => match b e1 with
      | .ok .nx e2 => whileN T b n e2
      | .ok .ct e2 => whileN T b n e2
      | .ok .bk e2 => .ok .nx e2
      | r => r
    | .ok false e1 => .ok .nx e1
    | .exc x e1 => .exc x e1
    | .stuck => .stuck
def Rs.isS {α : Type} : Rs α → Bool
  | .stuck => true
  | _ => false
open Classical in
noncomputable def whileM (T : M Bool) (b : M Fl) : M Fl := fun e => if h : ∃ n, (whileN T b n e).isS = false then whileN T b (Classical.choose h) e else .stuck
theorem whileN_succ {T : M Bool} {b : M Fl} : ∀ (n : Nat) (e : Ev), (whileN T b n e).isS = false → whileN T b (n + 1) e = whileN T b n e
  | 0, e, h => by simp [whileN, M.stuck, Rs.isS] at h
  | n + 1, e, h => by
    have h' := h
    simp only [whileN] at h' ⊢
    cases q : T e with
    | stuck => rfl
    | exc x e1 => rfl
    | ok k e1 =>
      cases k with
      | false => rfl
      | true =>
        simp only [q] at h' ⊢
        cases q2 : b e1 with
        | stuck => rfl
        | exc x e2 => rfl
        | ok f e2 =>
          simp only [q2] at h' ⊢
          cases f with
          | nx => exact whileN_succ n e2 h'
          | ct => exact whileN_succ n e2 h'
          | bk => rfl
          | rt r => rfl
theorem whileN_le {T : M Bool} {b : M Fl} {n k : Nat} {e : Ev} (h : (whileN T b n e).isS = false) (hk : n ≤ k) : whileN T b k e = whileN T b n e := by
  induction hk with
  | refl => rfl
  | step _ ih => rw [whileN_succ _ _ (by rw [ih]; exact h), ih]
theorem whileM_eq {T : M Bool} {b : M Fl} {n : Nat} {e : Ev} (h : (whileN T b n e).isS = false) : whileM T b e = whileN T b n e := by
  unfold whileM
  have hx : ∃ n, (whileN T b n e).isS = false := ⟨n, h⟩
  rw [dif_pos hx]
  have h2 := Classical.choose_spec hx
  generalize Classical.choose hx = k at h2
  rcases Nat.le_total n k with z | z
  · exact whileN_le h z
  · exact (whileN_le h2 z).symm
/-- one turn -/
theorem whileM_step {T : M Bool} {b : M Fl} {e e1 e2 : Ev} (h1 : T e = .ok true e1) (h2 : b e1 = .ok .nx e2) (h3 : (whileM T b e2).isS = false) : whileM T b e = whileM T b e2 := by
  have hx : ∃ n, (whileN T b n e2).isS = false := by
    apply Classical.byContradiction
    intro z
    unfold whileM at h3
    rw [dif_neg z] at h3
    simp [Rs.isS] at h3
  obtain ⟨n, hn⟩ := hx
  have e1' : whileN T b (n + 1) e = whileN T b n e2 := by simp only [whileN, h1, h2]
  rw [whileM_eq hn, whileM_eq (n := n + 1) (by rw [e1']; exact hn), e1']
theorem whileM_done {T : M Bool} {b : M Fl} {e e1 : Ev} (h1 : T e = .ok false e1) : whileM T b e = .ok .nx e1 := by
  have e1' : whileN T b 1 e = .ok .nx e1 := by simp only [whileN, h1]
  rw [whileM_eq (n := 1) (by rw [e1']; rfl), e1']
theorem whileM_exc {T : M Bool} {b : M Fl} {e e1 e2 : Ev} {x : Xc} (h1 : T e = .ok true e1) (h2 : b e1 = .exc x e2) : whileM T b e = .exc x e2 := by
  have e1' : whileN T b 1 e = .exc x e2 := by simp only [whileN, h1, h2]
  rw [whileM_eq (n := 1) (by rw [e1']; rfl), e1']
theorem whileM_ret {T : M Bool} {b : M Fl} {e e1 e2 : Ev} {r : Rt} (h1 : T e = .ok true e1) (h2 : b e1 = .ok (.rt r) e2) : whileM T b e = .ok (.rt r) e2 := by
  have e1' : whileN T b 1 e = .ok (.rt r) e2 := by simp only [whileN, h1, h2]
  rw [whileM_eq (n := 1) (by rw [e1']; rfl), e1']
theorem whileM_excT {T : M Bool} {b : M Fl} {e e1 : Ev} {x : Xc} (h1 : T e = .exc x e1) : whileM T b e = .exc x e1 := by
  have e1' : whileN T b 1 e = .exc x e1 := by simp only [whileN, h1]
  rw [whileM_eq (n := 1) (by rw [e1']; rfl), e1']
theorem ss_while {cc : Expr} {body : List Stmt} {pos : Pos} {T : M Bool} (hp : PassesOwn (model X.prog X.w) X.A X.env X.xe) (hc : STt X B W cc T) (hb : SB X B W body m) : SS X B W (.While cc body [] pos) (whileM T m) :=
  ⟨PS.imp (ps_while hp hc.pt hb.pss) fun Dn σ H ⟨c, e, R, p⟩ => by
    unfold whileM at p
    split at p
    · rename_i hx
      generalize Classical.choose hx = n at p
      refine ⟨fun n σ1 H1 => ∃ c1 e1, Rep X.K B c1 σ1 H1 e1 ∧ Step c H c1 H1 ∧ PostS X.K B W c H (whileN T m n e1) Dn, ⟨n, c, e, R, Step.refl, p⟩, ?_⟩
      intro n σ1 H1 ⟨c1, e1, R1, S1, p1⟩
      cases n with
      | zero => exact p1.elim
      | succ n =>
        refine ⟨c1, e1, R1, ?_⟩
        simp only [whileN] at p1
        cases q : T e1 with
        | stuck => rw [q] at p1; exact p1.elim
        | exc x e2 => rw [q] at p1; exact fun c2 H2 cls dd R2 S2 rx => p1 c2 σ1 H2 cls dd R2 (S1.trans S2) rx
        | ok k e2 =>
          rw [q] at p1
          intro c2 H2 R2 S2
          cases k with
          | false => rw [if_neg (by simp)]; exact p1 c2 σ1 H2 R2 (S1.trans S2)
          | true =>
            rw [if_pos rfl]
            dsimp only at p1
            refine ⟨fun σ' H' => ∃ c1 e1, Rep X.K B c1 σ' H' e1 ∧ Step c H c1 H' ∧ PostS X.K B W c H (whileN T m n e1) Dn, fun σ' H' h => ⟨n, Nat.lt_succ_self n, h⟩, c2, e2, R2, ?_⟩
            have S12 := S1.trans S2
            cases q2 : m e2 with
            | stuck => rw [q2] at p1; exact p1.elim
            | exc x e3 => rw [q2] at p1; exact fun c3 σ3 H3 cls dd R3 S3 rx => p1 c3 σ3 H3 cls dd R3 (S12.trans S3) rx
            | ok f e3 =>
              rw [q2] at p1
              cases f with
              | nx => exact fun c3 σ3 H3 R3 S3 => ⟨c3, e3, R3, S12.trans S3, p1⟩
              | ct => exact fun c3 σ3 H3 R3 S3 => ⟨c3, e3, R3, S12.trans S3, p1⟩
              | bk => exact fun c3 σ3 H3 R3 S3 => p1 c3 σ3 H3 R3 (S12.trans S3)
              | rt r => exact fun c3 σ3 H3 v R3 S3 rr => p1 c3 σ3 H3 v R3 (S12.trans S3) rr
    · exact p.elim⟩
def forL (g : TGf) (b : M Fl) : List D → M Fl
  | [] => M.pure .nx
  | d :: ds => fun e => match g d e with
    | some e1 => match b e1 with
      | .ok .nx e2 => forL g b ds e2
      | .ok .ct e2 => forL g b ds e2
      | .ok .bk e2 => .ok .nx e2
      | r => r
    | none => .stuck
def forM (g : TGf) (b : M Fl) (I : M (List D)) : M Fl := I.bind fun ds => forL g b ds
theorem ss_for {tg iter : Expr} {body : List Stmt} {pos : Pos} {is : List Nat} {g : TGf} {I : M (List D)} (hp : PassesOwn (model X.prog X.w) X.A X.env X.xe) (hc : X.calm = true) (hi : SI X B W tg iter I) (hg : SG X B tg is g) (hb : SB X B W body m) (hs : ∀ x, foldedSetIterable iter X.env x = pure x := by intro _; rfl) :
    SS X B W (.For tg iter body [] pos) (forM g m I) :=
  ⟨PS.imp (ps_for hp hc hi.pi hg.pg hb.pss hs) fun Dn σ H ⟨c, e, R, p⟩ => by
    refine ⟨c, e, R, ?_⟩
    unfold forM M.bind at p
    cases q : I e with
    | stuck => rw [q] at p; exact p.elim
    | exc x e1 => rw [q] at p; exact fun c1 H1 cls dd R1 S1 rx => p c1 σ H1 cls dd R1 S1 rx
    | ok ds e1 =>
      rw [q] at p
      intro c1 H1 J R1 S1 hJ
      let Pv : Nat → Sg → Hp → Prop := fun i σi Hi => ∃ ci ei, Rep X.K B ci σi Hi ei ∧ Step c1 H1 ci Hi ∧ PostS X.K B W c H (forL g m (ds.drop i) ei) Dn
      refine ⟨fun i n σi Hi => Pv i σi Hi ∧ i + n = ds.length, ⟨ds.length, ⟨c1, e1, R1, Step.refl, p⟩, by omega⟩, fun i n σi Hi ⟨⟨ci, ei, Ri, Si, pi⟩, hin⟩ => ?_⟩
      cases w : ds[i]? with
      | none =>
        have hlen : ds.length ≤ i := List.getElem?_eq_none_iff.mp w
        rw [List.drop_eq_nil_of_le hlen] at pi
        exact .inl ⟨(hJ i ci Hi Si Ri.unt).2 w, pi ci σi Hi Ri (S1.trans Si)⟩
      | some d =>
        obtain ⟨hgo, hyld⟩ := (hJ i ci Hi Si Ri.unt).1 d w
        have hlt : i < ds.length := (List.getElem?_eq_some_iff.mp w).1
        have hdrop : ds.drop i = d :: ds.drop (i + 1) := by
          rw [List.drop_eq_getElem_cons hlt]
          congr 1
          exact (List.getElem?_eq_some_iff.mp w).2
        rw [hdrop] at pi
        simp only [forL] at pi
        refine .inr ⟨hgo, Pv (i + 1), fun σ' H' hp => ⟨n - 1, by omega, hp, by omega⟩, fun x H' hy => ?_⟩
        obtain ⟨cy, gy, fy⟩ := hyld x H' hy
        have Ry := Ri.grow gy
        refine ⟨cy, ei, d, Ry, fy, ?_⟩
        cases w1 : g d ei with
        | none => rw [w1] at pi; exact pi.elim
        | some e3 =>
          rw [w1] at pi
          dsimp only at pi
          intro σ2 R2 l2 k2
          refine ⟨cy, e3, R2, ?_⟩
          have S2 : Step c1 H1 cy H' := Si.trans gy.step
          have S02 := S1.trans S2
          cases q2 : m e3 with
          | stuck => rw [q2] at pi; exact pi.elim
          | exc x e4 => rw [q2] at pi; exact fun c3 σ3 H3 cls dd R3 S3 rx => pi c3 σ3 H3 cls dd R3 (S02.trans S3) rx
          | ok f e4 =>
            rw [q2] at pi
            cases f with
            | nx => exact fun c3 σ3 H3 R3 S3 => ⟨c3, e4, R3, S2.trans S3, pi⟩
            | ct => exact fun c3 σ3 H3 R3 S3 => ⟨c3, e4, R3, S2.trans S3, pi⟩
            | bk => exact fun c3 σ3 H3 R3 S3 => pi c3 σ3 H3 R3 (S02.trans S3)
            | rt r => exact fun c3 σ3 H3 v R3 S3 rr => pi c3 σ3 H3 v R3 (S02.trans S3) rr⟩
/-! ### stores -/
end
end Sc

set_option Elab.async false
set_option linter.all false
set_option autoImplicit false
set_option maxRecDepth 100000
set_option maxHeartbeats 400000
namespace Sc
open PySem PySem.Spec PyProof.Rows L2
section
variable {X : Cx} {K : PySem.W.Frag} {B : Bs} {W : WX} {σ : Sg} {c c' c2 c0 : CM} {H H' H2 Hs H0 : Hp} {e e' : Ev} {m m2 : M Fl}
/-- s[i] = v, s a slot that holds a list -/
def putLM (i : Nat) (A C : M Rv) : M Fl := A.bind fun r e => match freeze r e with
  | some (d, e1) => match lstAt i e1 with
    | some _ => (C.bind fun ri e2 => match view ri e2 with
      | some (.int k) => match lstAt i e2 with
        | some (b, ds) => match ixN ds.length k with
          | some j => .ok .nx (e2.set i (slOf b (.lst (ds.set j d))))
          | none => .stuck
        | none => .stuck
      | _ => .stuck) e1
    | none => .stuck
  | none => .stuck
theorem putL_of {i : Nat} {A C : M Rv} {Dn : Ends} (h : tS K B W (putLM i A C) Dn σ H) : tE K B W A σ H fun v H1 => ∃ x, σ[i]? = some (some x) ∧ tE K B W C σ H1 fun y H2 => rSetL x y v H2 (Dn.nx σ) := by
  obtain ⟨c, e, R, p⟩ := h
  refine tE.bindS p R fun c1 H1 e1 v r R1 S1 rv p1 => ?_
  cases w : freeze r e1 with
  | none => rw [w] at p1; exact p1.elim
  | some pr =>
    obtain ⟨d, e2⟩ := pr
    rw [w] at p1
    dsimp only at p1
    obtain ⟨c2, R2, S2, F2, f2, o2⟩ := freeze_ok R1 S1 rv w
    cases w0 : lstAt i e2 with
    | none => rw [w0] at p1; exact p1.elim
    | some kd =>
      obtain ⟨k0, ds0⟩ := kd
      rw [w0] at p1
      dsimp only at p1
      obtain ⟨a, g1, g2, xs0, g3, g4⟩ := sl_at R2 (lstAt_ok w0)
      refine ⟨.ref a, g1, c2, e2, R2, ?_⟩
      unfold M.bind at p1
      cases q : C e2 with
      | stuck => rw [q] at p1; exact p1.elim
      | exc x e3 => rw [q] at p1; exact fun c3 H3 cls dd R3 S3 rx => p1 c3 σ H3 cls dd R3 (S2.trans S3) rx
      | ok ri e3 =>
        rw [q] at p1
        intro c3 H3 y R3 S3 v3
        dsimp only at p1
        split at p1
        · rename_i k wk
          rw [(view_ok R3 v3 wk).int]
          cases w4 : lstAt i e3 with
          | none => rw [w4] at p1; exact p1.elim
          | some bd =>
            obtain ⟨b, ds⟩ := bd
            rw [w4] at p1
            dsimp only at p1
            obtain ⟨a', b1, b2, xs, b3, b4⟩ := sl_at R3 (lstAt_ok w4)
            rw [g1] at b1
            cases b1
            cases w5 : ixN ds.length k with
            | none => rw [w5] at p1; exact p1.elim
            | some j =>
              rw [w5] at p1
              have F3 := F2.mono (S3.frz R2.trk)
              have nf : ∀ z, c3 z = .frz → z ≠ a := fun z hz q => by rw [q, b2] at hz; cases b <;> simp at hz
              have f : Frz c3 H3 c3 (upd H3 a (.lst (xs.set j v))) := fun z hz => ⟨hz, fun _ => upd_ne (nf z hz)⟩
              refine ⟨a, xs, k, j, rfl, rfl, b3, by rw [b4.length]; exact w5, ?_⟩
              obtain ⟨R4, f4⟩ := R3.write (o := .lst (ds.set j d)) g1 b2 (by rw [b3]; simp) (fun s hs => by rw [lstAt_ok w4] at hs; cases hs; exact ⟨_, rfl⟩) ⟨_, upd_same, (FzA.set F3 j b4).mono f⟩
              exact p1 c3 σ _ R4 ((S2.trans S3).write b2)
        · exact p1.elim
theorem ss_putL {o ix ex : Expr} {tpos pos : Pos} {i : Nat} {A C : M Rv} (h : SE X B W ex A) (ho : PE X o (tVar i)) (hi : SE X B W ix C) (hs : swapsWithSole [.Subscript o ix tpos] ex pos.line X.env = pure false := by rfl) (hw : swappedStores [.Subscript o ix tpos] ex X.env = pure none := by rfl)
    (h1 : (assignEach [.Subscript o ix tpos] X.env).map (·.2) = [assign (.Subscript o ix tpos) X.env] := by rfl)
    (ha : ∀ v, assign (.Subscript o ix tpos) X.env v = (do
      let ov ← holding [v] (eval o X.env)
      let iv ← holding [v, ov] (eval ix X.env)
      standAt tpos
      holding [v, ov, iv] (setItem ov iv v)
      release [v, ov, iv] []) := by intro _; rfl) :
    SS X B W (.Assign [.Subscript o ix tpos] ex pos) (putLM i A C) :=
  ⟨PS.imp (ps_asg h.pe (pg_sub ho hi.pe set_list ha) hs hw h1) fun Dn σ H q => putL_of q⟩
/-! o.f = v -/
def putD : Str → D → List Str → List D → Option (List Str × List D)
  | f, d, [], [] => some ([f], [d])
  | f, d, k :: ks, x :: ds => if k = f then some (k :: ks, d :: ds) else match putD f d ks ds with
    | some (ks', ds') => some (k :: ks', x :: ds')
    | none => none
  | _, _, _, _ => none
theorem putD_ok {f : Str} {v : V} {d : D} (hv : Fz K c H v d) : ∀ {fs : List (Str × V)} {ks ks' : List Str} {ds ds' : List D}, fs.map (·.1) = ks → FzA K c H (fs.map (·.2)) ds → putD f d ks ds = some (ks', ds') → (putF f v fs).map (·.1) = ks' ∧ FzA K c H ((putF f v fs).map (·.2)) ds'
  | [], _, _, _, _, rfl, h, w => by
    cases h
    simp [putD] at w
    obtain ⟨rfl, rfl⟩ := w
    exact ⟨rfl, .cons hv .nil⟩
  | (k, x) :: fs, _, ks', ds, ds', rfl, h, w => by
    cases h with
    | @cons _ d0 _ ds0 a b =>
      simp only [List.map_cons, putD] at w
      unfold putF
      split at w
      · rename_i q
        simp at w
        obtain ⟨rfl, rfl⟩ := w
        rw [if_pos q]
        exact ⟨rfl, .cons hv b⟩
      · rename_i q
        rw [if_neg q]
        cases w2 : putD f d (fs.map (·.1)) ds0 with
        | none => rw [w2] at w; cases w
        | some pr =>
          obtain ⟨k2, d2⟩ := pr
          rw [w2] at w
          simp at w
          obtain ⟨rfl, rfl⟩ := w
          obtain ⟨h1, h2⟩ := putD_ok hv rfl b w2
          exact ⟨by rw [List.map_cons, h1], .cons a h2⟩
def objAt (C : Str) (i : Nat) (e : Ev) : Option (Bool × List Str × List D) := match e[i]? with
  | some (.own (.obj C' ks ds)) => if C' = C then some (false, ks, ds) else none
  | some (.io (.obj C' ks ds)) => if C' = C then some (true, ks, ds) else none
  | _ => none
theorem objAt_ok {C : Str} {i : Nat} {k : Bool} {ks : List Str} {ds : List D} (h : objAt C i e = some (k, ks, ds)) : e[i]? = some (slOf k (.obj C ks ds)) := by
  unfold objAt at h
  split at h
  · split at h
    · rename_i q z; subst z; simp at h; obtain ⟨rfl, rfl, rfl⟩ := h; exact q
    · cases h
  · split at h
    · rename_i q z; subst z; simp at h; obtain ⟨rfl, rfl, rfl⟩ := h; exact q
    · cases h
  · cases h
def putFM (C f : Str) (i : Nat) (A : M Rv) : M Fl := A.bind fun r e => match freeze r e with
  | some (d, e1) => match objAt C i e1 with
    | some (k, ks, ds) => if ks.length < 1000 then match putD f d ks ds with
      | some (ks', ds') => .ok .nx (e1.set i (slOf k (.obj C ks' ds')))
      | none => .stuck
      else .stuck
    | none => .stuck
  | none => .stuck
theorem ss_putF {o ex : Expr} {C f : Str} {pos pos' : Pos} {i : Nat} {A : M Rv} (h : SE X B W ex A) (ho : PE X o (tVar i)) (cl : Cls X.K (He.ga X.K C)) (na : NoAttr X.K (He.ga X.K C) f) (hs : swapsWith ex (some (.Attribute o f pos')) pos.line X.env = pure false := by rfl) :
    SS X B W (.Assign [.Attribute o f pos'] ex pos) (putFM C f i A) :=
  ⟨PS.imp (ps_fld ho h.pe hs) fun Dn σ H ⟨c, e, R, p⟩ => tE.bindS p R fun c1 H1 e1 v r R1 S1 rv p1 => by
    cases w : freeze r e1 with
    | none => rw [w] at p1; exact p1.elim
    | some pr =>
      obtain ⟨d, e2⟩ := pr
      rw [w] at p1
      dsimp only at p1
      obtain ⟨c2, R2, S2, F2, f2, o2⟩ := freeze_ok R1 S1 rv w
      cases w0 : objAt C i e2 with
      | none => rw [w0] at p1; exact p1.elim
      | some kd =>
        obtain ⟨k, ks, ds⟩ := kd
        rw [w0] at p1
        dsimp only at p1
        obtain ⟨a, g1, g2, dx, fs, g3, g4, g5⟩ := sl_at R2 (objAt_ok w0)
        split at p1
        · rename_i hl
          cases w2 : putD f d ks ds with
          | none => rw [w2] at p1; exact p1.elim
          | some pr2 =>
            obtain ⟨ks', ds'⟩ := pr2
            rw [w2] at p1
            have nf : ∀ z, c2 z = .frz → z ≠ a := fun z hz q => by rw [q, g2] at hz; cases k <;> simp at hz
            have fr : Frz c2 H1 c2 (upd H1 a (.ins (He.ga X.K C) dx (putF f v fs))) := fun z hz => ⟨hz, fun _ => upd_ne (nf z hz)⟩
            obtain ⟨q1, q2⟩ := putD_ok F2 g4 g5 w2
            obtain ⟨R4, f4⟩ := R2.write (o := .obj C ks' ds') (ho := .ins (He.ga X.K C) dx (putF f v fs)) g1 g2 (by rw [g3]; simp) (fun s hs => by rw [objAt_ok w0] at hs; cases hs; exact ⟨_, rfl⟩) ⟨dx, _, upd_same, q1, q2.mono fr⟩
            exact ⟨.ref a, g1, a, _, dx, fs, rfl, g3, cl, na, by rw [← g4] at hl; simpa using hl, p1 c2 σ _ R4 (S2.write g2)⟩
        · exact p1.elim⟩

/-! ### a def -/
def Arg.sl : Arg → Sl
  | .fz d => .fz d
  | .io o => .io o
def iosOf : List Arg → Ev → Option (List Arg)
  | [], _ => some []
  | .fz d :: as, _ :: e => match iosOf as e with
    | some bs => some (.fz d :: bs)
    | none => none
  | .io _ :: as, .io o :: e => match iosOf as e with
    | some bs => some (.io o :: bs)
    | none => none
  | _, _ => none
def fnRun (n : Nat) (m : M Fl) : Fun := fun as => match m (as.map Arg.sl ++ List.replicate (n - as.length) .un) with
  | .ok .nx e => match iosOf as e with
    | some bs => .ret (.fz .non) bs
    | none => .stuck
  | .ok (.rt r) e => match iosOf as e with
    | some bs => .ret r bs
    | none => .stuck
  | .exc x e => match iosOf as e with
    | some bs => .exc x bs
    | none => .stuck
  | _ => .stuck
/-- the addresses lent to the def -/
def ioMap (c : CM) (vs : List V) : Nat → Option Addr := fun j => match vs[j]? with
  | some (.ref a) => if c a = .io j then some a else none
  | _ => none
theorem args_slot {j : Nat} {vs : List V} {as : List Arg} (h : ArgsR K c H j vs as) : ∀ (i : Nat) (s : Sl), (as.map Arg.sl)[i]? = some s → ∃ v, vs[i]? = some v ∧ RepS K c H (j + i) s (some v) := by
  induction h with
  | nil => intro i s hs; simp at hs
  | @fz j v vs d as a _ ih =>
    intro i s hs
    cases i with
    | zero => simp at hs; subst hs; exact ⟨v, rfl, v, rfl, a⟩
    | succ i =>
      simp only [List.map_cons, List.getElem?_cons_succ] at hs ⊢
      obtain ⟨w, h1, h2⟩ := ih i s hs
      exact ⟨w, h1, by rw [show j + (i + 1) = j + 1 + i by omega]; exact h2⟩
  | @io j a vs o as h1 h2 _ ih =>
    intro i s hs
    cases i with
    | zero => simp at hs; subst hs; exact ⟨_, rfl, a, rfl, h1, h2⟩
    | succ i =>
      simp only [List.map_cons, List.getElem?_cons_succ] at hs ⊢
      obtain ⟨w, g1, g2⟩ := ih i s hs
      exact ⟨w, g1, by rw [show j + (i + 1) = j + 1 + i by omega]; exact g2⟩
theorem args_len {j : Nat} {vs : List V} {as : List Arg} (h : ArgsR K c H j vs as) : vs.length = as.length := by
  induction h with
  | nil => rfl
  | fz _ _ ih => simp [ih]
  | io _ _ _ ih => simp [ih]
theorem args_io {j : Nat} {vs : List V} {as : List Arg} (h : ArgsR K c H j vs as) : ∀ (i : Nat) (o : O), as[i]? = some (.io o) → ∃ a, vs[i]? = some (.ref a) ∧ c a = .io (j + i) := by
  induction h with
  | nil => intro i o h; simp at h
  | @fz j v vs d as a _ ih =>
    intro i o h
    cases i with
    | zero => simp at h
    | succ i =>
      simp only [List.getElem?_cons_succ] at h ⊢
      obtain ⟨b, h1, h2⟩ := ih i o h
      exact ⟨b, h1, by rw [show j + (i + 1) = j + 1 + i by omega]; exact h2⟩
  | @io j a vs o' as h1 h2 _ ih =>
    intro i o h
    cases i with
    | zero => exact ⟨a, rfl, h1⟩
    | succ i =>
      simp only [List.getElem?_cons_succ] at h ⊢
      obtain ⟨b, h1, h2⟩ := ih i o h
      exact ⟨b, h1, by rw [show j + (i + 1) = j + 1 + i by omega]; exact h2⟩
end
end Sc

set_option Elab.async false
set_option linter.all false
set_option autoImplicit false
set_option maxRecDepth 100000
set_option maxHeartbeats 400000
namespace Sc
open PySem PySem.Spec PyProof.Rows L2
section
variable {K : PySem.W.Frag} {B : Bs} {W : WX} {σ : Sg} {c c' c2 c0 : CM} {H H' H2 Hs H0 : Hp} {e e' : Ev} {m m2 : M Fl}
theorem start_rep {N : List Str} {vs : List V} {as : List Arg} (U : Unt c H) (no : ∀ a i, c a ≠ .own i) (io : ∀ a j, c a = .io j → vs[j]? = some (.ref a)) (A : ArgsR K c H 0 vs as) (hl : vs.length ≤ N.length) :
    Rep K ⟨H, ioMap c vs⟩ c (L2.start N vs) H (as.map Arg.sl ++ List.replicate (N.length - as.length) .un) where
  unt := U
  keep a h := h
  new a i h := absurd h (no a i)
  io a i h := by
    show ioMap c vs i = some a
    unfold ioMap
    rw [io a i h]
    dsimp only
    rw [if_pos h]
  len := by
    have := args_len A
    simp [L2.start]
    omega
  slot i s h := by
    have hl2 := args_len A
    unfold L2.start
    by_cases q : i < as.length
    · rw [List.getElem?_append_left (by simpa using q)] at h
      obtain ⟨v, h1, h2⟩ := args_slot A i s h
      rw [Nat.zero_add] at h2
      refine ⟨some v, ?_, h2⟩
      rw [List.getElem?_append_left (by simpa [hl2] using q), List.getElem?_map, h1]
      rfl
    · rw [List.getElem?_append_right (by simpa using q)] at h
      rw [List.getElem?_replicate] at h
      split at h
      · rename_i hi
        cases h
        refine ⟨none, ?_, trivial⟩
        rw [List.getElem?_append_right (by simpa [hl2] using q), List.getElem?_replicate]
        rw [if_pos (by simp at hi ⊢; omega)]
      · cases h
theorem ios_ok {vs : List V} {c1 : CM} {H1 : Hp} {σ1 : Sg} : ∀ {as ios : List Arg} {us : List V} {j : Nat} {e1 : Ev}, Rep K ⟨H, ioMap c vs⟩ c1 σ1 H1 e → (∀ i s, e1[i]? = some s → e[j + i]? = some s) → (∀ i u, us[i]? = some u → vs[j + i]? = some u) → us.length = as.length → iosOf as e1 = some ios → IosR K c1 H1 j us ios := by
  intro as
  induction as with
  | nil =>
    intro ios us j e1 R he hu hl w
    simp [iosOf] at w
    subst w
    cases us with
    | nil => exact .nil
    | cons u us => simp at hl
  | cons a as ih =>
    intro ios us j e1 R he hu hl w
    cases us with
    | nil => simp at hl
    | cons u us =>
      have hu' : ∀ i x, us[i]? = some x → vs[j + 1 + i]? = some x := fun i x hx => by rw [show j + 1 + i = j + (i + 1) by omega]; exact hu (i + 1) x (by simpa using hx)
      cases e1 with
      | nil => cases a <;> simp [iosOf] at w
      | cons s e1 =>
        have he' : ∀ i x, e1[i]? = some x → e[j + 1 + i]? = some x := fun i x hx => by rw [show j + 1 + i = j + (i + 1) by omega]; exact he (i + 1) x (by simpa using hx)
        cases a with
        | fz d =>
          simp only [iosOf] at w
          cases q : iosOf as e1 with
          | none => rw [q] at w; cases w
          | some bs => rw [q] at w; cases w; exact .fz (ih R he' hu' (by simpa using hl) q)
        | io o =>
          cases s <;> simp only [iosOf] at w <;> first | cases w | skip
          rename_i o'
          cases q : iosOf as e1 with
          | none => rw [q] at w; cases w
          | some bs =>
            rw [q] at w; cases w
            have h0 := he 0 (.io o') rfl
            obtain ⟨ww, g1, a, rfl, g2, g3⟩ := R.slot _ _ h0
            have h1 := R.io a _ g2
            have h2 : ioMap c vs (j + 0) = some a := h1
            unfold ioMap at h2
            rw [hu 0 u rfl] at h2
            cases u <;> simp at h2
            obtain ⟨h2, rfl⟩ := h2
            exact .io g2 g3 (ih R he' hu' (by simpa using hl) q)
/-- THE RULE for a def: what its body computes is what it promises -/
theorem def_ok {P : Program} {w : World} {mg : Str → Option Value} {base : Heap} {k : Nat} {f : Addr} {fd : FuncData} {x qual : Str} {params : Arguments} {body : List Stmt} {scope : Scope} {N ps : List Str}
    (F : FunD K x qual params body scope [] [] f fd) (S : FnScope N ps scope) (hps : ps.length ≤ N.length)
    (hb : ∀ (cdv : Value) (A : Around) (outer : List Env) (s : Shared) (H : Hp) (E : XK) (B : Bs) (W : WX), Room k (A.deeper (envOfC qual scope s.heap.objs.size f cdv)) → Takes (cxOf (L2.CX P w) P w K mg base N qual scope f cdv A outer s H E) W →
      SB (cxOf (L2.CX P w) P w K mg base N qual scope f cdv A outer s H E) B W body m) : FnOk P w K mg base (L2.CX P w) (k + 1) f fd ps (spOf K ps.length (fnRun N.length m)) := by
  refine F.ok S (fun vs H Q E h => h.1) fun cdv A outer s H vs Q E hr hsp => ?_
  obtain ⟨hl, c, as, U, no, io, AR, P'⟩ := hsp
  refine ⟨_, (hb cdv A outer s H E ⟨H, ioMap c vs⟩ (fun cls d _ H => E cls d H) hr (takes_of rfl rfl rfl rfl)).pss, ?_⟩
  have R0 := start_rep (N := N) U no io AR (by rw [hl]; exact hps)
  refine ⟨c, _, R0, ?_⟩
  have ea := args_len AR
  have fin : ∀ {c1 σ1 H1 e1 ios}, Rep K ⟨H, ioMap c vs⟩ c1 σ1 H1 e1 → iosOf as e1 = some ios → IosR K c1 H1 0 vs ios := fun R1 q =>
    ios_ok (e1 := _) R1 (fun i s h => by rw [Nat.zero_add]; exact h) (fun i u h => by rw [Nat.zero_add]; exact h) ea q
  unfold fnRun at P'
  generalize as.map Arg.sl ++ List.replicate (N.length - as.length) .un = e0 at *
  cases q : m e0 with
  | stuck => rw [q] at P'; exact P'.elim
  | exc x e1 =>
    rw [q] at P'
    dsimp only at P'
    cases q2 : iosOf as e1 with
    | none => rw [q2] at P'; exact P'.elim
    | some ios =>
      rw [q2] at P'
      exact fun c1 σ1 H1 cls dd R1 S1 rx => P' c1 H1 cls dd R1.unt S1 (fin R1 q2) rx
  | ok fl e1 =>
    rw [q] at P'
    cases fl with
    | bk => exact P'.elim
    | ct => exact P'.elim
    | nx =>
      dsimp only at P'
      cases q2 : iosOf as e1 with
      | none => rw [q2] at P'; exact P'.elim
      | some ios =>
        rw [q2] at P'
        exact fun c1 σ1 H1 R1 S1 => P' c1 H1 .non R1.unt S1 (fin R1 q2) .non
    | rt r =>
      dsimp only at P'
      cases q2 : iosOf as e1 with
      | none => rw [q2] at P'; exact P'.elim
      | some ios =>
        rw [q2] at P'
        exact fun c1 σ1 H1 v R1 S1 rr => P' c1 H1 v R1.unt S1 (fin R1 q2) rr
/-- a def of no level: it promises nothing -/
theorem FnOk.zero {P : Program} {w : World} {mg : Str → Option Value} {base : Heap} {CX : CXT} {f : Addr} {fd : FuncData} {ps : List Str} {n : Nat} {k : Nat} : FnOk P w K mg base CX k f fd ps (spOf K n fun _ => .stuck) where
  len vs H Q E h := by obtain ⟨_, _, _, _, _, _, _, h⟩ := h; exact h.elim
  run A outer s H args us vs Q E _ _ _ _ h := by obtain ⟨_, _, _, _, _, _, _, h⟩ := h; exact h.elim
end
end Sc

set_option Elab.async false
set_option linter.all false
set_option autoImplicit false
set_option maxRecDepth 100000
set_option maxHeartbeats 3200000
namespace Sc
open PySem PySem.Spec PyProof.Rows L2
/-! ### set(a list of texts): how many are unlike -/
def sStep (σ : List Str) (v : Str) : List Str := if v ∈ σ then σ else σ ++ [v]
def sMet (val : Nat → Str) (i : Nat) : List Str := ((List.range i).map val).foldl sStep []
theorem sMet_succ (val : Nat → Str) (i : Nat) : sMet val (i + 1) = sStep (sMet val i) (val i) := by
  unfold sMet; simp [List.range_succ]
theorem sStep_len (σ : List Str) (v : Str) : (sStep σ v).length ≤ σ.length + 1 := by unfold sStep; split <;> simp
theorem sMet_len (val : Nat → Str) : ∀ i, (sMet val i).length ≤ i
  | 0 => by simp [sMet]
  | i + 1 => by rw [sMet_succ]; have a := sStep_len (sMet val i) (val i); have b := sMet_len val i; omega
theorem sStep_mem (σ : List Str) (v k : Str) : decide (k ∈ sStep σ v) = (decide (k ∈ σ) || decide (k = v)) := by
  unfold sStep
  by_cases h : v ∈ σ
  · rw [if_pos h]
    by_cases e : k = v
    · subst e; simp [h]
    · simp [e]
  · rw [if_neg h]; simp [List.mem_append, Bool.decide_or]
theorem sStep_n (σ : List Str) (v : Str) : (sStep σ v).length = if decide (v ∈ σ) = true then σ.length else σ.length + 1 := by
  unfold sStep
  by_cases h : v ∈ σ <;> simp [h]
section
variable {prog : Program} {w : World} {A : Around} {R : Result → Shared → Prop} {I : Addr} {fp wr : List Addr} {G : Array GenState → Array GenState → Prop} {n : Nat} {P : Nat → Value → Prop} {St : Nat → Shared → Prop}
theorem setTxt_loop (Wk : WalksS prog w A.in1 I fp wr G n P St) (S : Addr) (hSf : S ∉ fp) (val : Nat → Str) (hval : ∀ i v, P i v → ∃ t, v = .str (val i) t) (hb : n + 1 < scanBound) :
    ∀ (k i : Nat) (s : Shared), n - i = k → i ≤ n → St i s → s.heap.SetOf (strKind prog w) S (fun x => decide (x ∈ sMet val i)) (sMet val i).length →
      (∀ s', Moved (S :: wr) G s s' → s'.heap.SetOf (strKind prog w) S (fun x => decide (x ∈ sMet val n)) (sMet val n).length → R (.ok (.ret .none)) s') →
      codeAny (model prog w) A (.builtin "set.update.loop" ⟨[.ref S, .ref I], []⟩) R s := by
  have nw : S ∉ wr := fun h => hSf (Wk.sub _ h)
  intro k
  induction k with
  | zero =>
    intro i s hk hi hst hS hR
    have : i = n := by omega
    subst this
    refine codeAny_builtin PyProof.Rows.F.entry_set_update_loop ?_
    rw [Around.under_plainId PyProof.Rows.F.plain_set_update_loop _]
    refine wpAny_bind (m := pyNext (.ref I)) (Wk.done s _ _ hst fun s' hm => wpAny_pure (hR s' (hm.mono fun b hb => List.mem_cons_of_mem _ hb) ?_))
    obtain ⟨o, es, ep, t, ho, rest⟩ := hS
    exact ⟨o, es, ep, t, hm.heap S _ nw ho, rest⟩
  | succ k ih =>
    intro i s hk hi hst hS hR
    have lt : i < n := by omega
    refine codeAny_builtin PyProof.Rows.F.entry_set_update_loop ?_
    rw [Around.under_plainId PyProof.Rows.F.plain_set_update_loop _]
    refine wpAny_bind (m := pyNext (.ref I)) (Wk.item i s _ _ lt hst fun v s' hP hst' hm => ?_)
    obtain ⟨t, rfl⟩ := hval i v hP
    have hS1 : s'.heap.SetOf (strKind prog w) S (fun x => decide (x ∈ sMet val i)) (sMet val i).length := by
      obtain ⟨o, es, ep, tb, ho, rest⟩ := hS
      exact ⟨o, es, ep, tb, hm.heap S _ nw ho, rest⟩
    refine wpAny_bind (m := holding [Value.str (val i) t] (setAdd S (.str (val i) t))) (wpAny_holding ?_)
    unfold setAdd
    refine wpAny_holding (wpAny_bind ((strKind prog w).pyHash (k := val i) (strKind_is _ _ _ _) ?_))
    have room : (sMet val i).length + 1 < scanBound := by have := sMet_len val i; omega
    refine wpAny_setAddHashed_of (knd := strKind prog w) (s := { s' with toks := s'.toks + 1 }) (strKind_is _ _ _ _) rfl hS1 room fun h' hsb hS2 => ?_
    have hS3 : h'.SetOf (strKind prog w) S (fun x => decide (x ∈ sMet val (i + 1))) (sMet val (i + 1)).length :=
      SetOf_congr hS2 (fun x => by rw [sMet_succ, sStep_mem]) (by rw [sMet_succ, sStep_n])
    refine wpAny_pure ⟨plainId_quiet PyProof.Rows.F.plain_set_update_loop _, ih (i + 1) _ (by omega) lt (Wk.frame _ s' _ _ hst' (Nat.le_succ _) fun b hb o e => by rw [hsb.2 b fun z => hSf (by rw [← z]; exact hb)]; exact e) hS3 fun s2 hm2 hS4 => ?_⟩
    refine hR s2 (Moved.trans Wk.gtrans ((hm.mono fun b hb => List.mem_cons_of_mem _ hb).then_heap (Nat.le_succ _) fun b o hb e => ?_) hm2) hS4
    rw [hsb.2 b fun z => hb (by rw [z]; exact List.mem_cons_self)]; exact e
theorem strs_at : ∀ {vs : List Value} {ns : List Str}, PyProof.Rows.StrsAre vs ns → ∀ (i : Nat) (v : Value), vs[i]? = some v → ∃ t, v = .str (ns.getD i Str.empty) t
  | _, _, .nil, i, v, h => by simp at h
  | _, _, .cons n t hr, 0, v, h => ⟨t, by simpa using h.symm⟩
  | _, _, .cons n t hr, i + 1, v, h => by
    obtain ⟨t', e⟩ := strs_at hr i v (by simpa using h)
    exact ⟨t', by rw [e]; rfl⟩
end
section
variable {prog : Program} {w : World} {A : Around} {E : Value → Shared → Prop} {s : Shared}
theorem setTxt_call {l : Addr} {items : Array Value} {ns : List Str} {Q : Value → Shared → Prop}
    (hh : A.handled = none) (hl : s.heap.IsList l items) (hi : PyProof.Rows.StrsAre items.toList ns) (hb : items.size + 1 < scanBound)
    (h : ∀ (h' : Heap) (tk : Nat), h'.SetOf (strKind prog w) s.heap.objs.size (fun x => decide (x ∈ sMet (fun i => ns.getD i Str.empty) items.size)) (sMet (fun i => ns.getD i Str.empty) items.size).length →
      (∀ b o, b < s.heap.objs.size → s.heap.get? b = some o → h'.get? b = some o) → Q (.ref s.heap.objs.size) { s with heap := h', toks := tk }) :
    wpAny (model prog w) A (call (.type "set") [.ref l]) Q E s := by
  obtain ⟨c, tl, hmro⟩ := PySem.F.called_set.mro
  have hmade := PySem.F.called_set.made
  have hsub := PySem.F.called_set.sub
  refine wpAny_call (codeAny_of_tree ?_)
  show wpAny _ _ (callAny (.type "set") _) _ _ _
  refine wpAny_pure ⟨Code.quiet_builtin _ (by decide +kernel), codeAny_builtin PySem.F.entry_type_call ?_⟩
  rw [Around.under_plain (weight_type_call_type "set" [.ref l] []) rfl]
  have h1 := PySem.F.called_set.notType
  have h2 := PySem.F.called_set.canCreate
  have hct := PySem.F.typeCall_set_1 (.ref l)
  repeat (any_goals (first | assumption | wp_step))
  refine codeAny_mono (code_set_new_1 (.ref l) (E := E) (Q₁ := fun obj s₁ => ∃ led : Bool, obj = .ref s.heap.objs.size ∧ s₁ = { s with heap := s.heap.push { cls := .type "set", dict := none, data := .set #[] 0 (.fresh 0 0 led) } }) fun led => ⟨led, rfl, rfl⟩) fun r s₁ hr => ?_
  cases r with
  | error e => exact hr
  | ok fl =>
    cases fl with
    | ret obj =>
      obtain ⟨led, rfl, rfl⟩ := hr
      have hS : (s.heap.push { cls := .type "set", dict := none, data := .set #[] 0 (.fresh 0 0 led) }).get? s.heap.objs.size = some { cls := .type "set", dict := none, data := .set #[] 0 (.fresh 0 0 led) } := Heap.get?_push_size _ rfl
      have hT : Shared.TypeIs { s with heap := s.heap.push { cls := .type "set", dict := none, data := .set #[] 0 (.fresh 0 0 led) } } (.ref s.heap.objs.size) "set" := ⟨_, hS, rfl⟩
      have hli := PySem.F.called_set.init.lookup
      have hbi := PySem.F.called_set.init.bind (.ref s.heap.objs.size)
      repeat (any_goals (first | assumption | wp_step))
      refine codeAny_mono (codeAny_call_builtin (R := wants (fun r s₂ => r = .none ∧ ∃ h' tk, s₂ = { s with heap := h', toks := tk } ∧
          h'.SetOf (strKind prog w) s.heap.objs.size (fun x => decide (x ∈ sMet (fun i => ns.getD i Str.empty) items.size)) (sMet (fun i => ns.getD i Str.empty) items.size).length ∧
          (∀ b o, b < s.heap.objs.size → s.heap.get? b = some o → h'.get? b = some o)) E) PySem.F.called_set.init.plain PySem.F.entry_set_init (check_set_init_1 hT ?_)) fun r₂ s₂ hr₂ => ?_
      · obtain ⟨ol, hol, hcl, nl, hdl⟩ := hl
        obtain ⟨ocls, odict, odata, oslots⟩ := ol
        simp only at hcl hdl
        subst hcl; subst hdl
        have hol' : (s.heap.push { cls := .type "set", dict := none, data := .set #[] 0 (.fresh 0 0 led) }).get? l = some { cls := .type "list", dict := odict, data := .seq items nl, slots := oslots } := Heap.get?_push_of_some _ hol
        have hsls := PySem.F.sub_list_set
        have hslf := PySem.F.sub_list_frozenset
        have hne : (Value.type "list" == Value.type "dict") = false := by decide
        have hl1 : (s.heap.push { cls := .type "set", dict := none, data := .set #[] 0 (.fresh 0 0 led) }).IsList l items := ⟨_, hol', rfl, nl, rfl⟩
        unfold Builtin.«set.__init__» noKeywords Builtin.Frozenset.updateFrom
        generalize hPI : pyIter = PI
        wp_walk
        subst hPI
        refine wpAny_pyIter_list hl1 ?_
        refine wpAny_bind (wpAny_runValue ?_)
        have hlS : l < s.heap.objs.size := Heap.lt_size hol
        have hh3 : A.in1.in1.in1.handled = none := by simp [hh]
        have hneI : l ≠ (s.heap.push { cls := .type "set", dict := none, data := .set #[] 0 (.fresh 0 0 led) }).objs.size := by
          rw [Heap.size_push]; exact Nat.ne_of_lt (Nat.lt_succ_of_lt hlS)
        have hSf : s.heap.objs.size ∉ [(s.heap.push { cls := .type "set", dict := none, data := .set #[] 0 (.fresh 0 0 led) }).objs.size, l] := by
          rw [Heap.size_push]; simp only [List.mem_cons, List.mem_singleton, List.not_mem_nil, or_false, not_or]
          exact ⟨Nat.ne_of_lt (Nat.lt_succ_self _), Nat.ne_of_gt hlS⟩
        have hval : ∀ (i : Nat) (v : Value), items[i]? = some v → ∃ t, v = .str ((fun i => ns.getD i Str.empty) i) t := fun i v hv =>
          strs_at hi i v (by rw [Array.getElem?_toList]; exact hv)
        refine setTxt_loop ((Walks.list hh3 _ l hneI items).toS) s.heap.objs.size
          hSf (fun i => ns.getD i Str.empty) hval hb (items.size - 0) 0 _ (by omega) (Nat.zero_le _)
          ⟨⟨_, Heap.get?_push_size _ rfl, rfl, rfl⟩, (hl1.push _)⟩ ?hS0 ?hR
        case hS0 =>
          have hget : ((s.heap.push { cls := .type "set", dict := none, data := .set #[] 0 (.fresh 0 0 led) }).push { cls := .type "list_iterator", data := .fields #[.ref l, .int 0 0] }).get? s.heap.objs.size
              = some { cls := .type "set", dict := none, data := .set #[] 0 (.fresh 0 0 led) } := Heap.get?_push_of_some _ hS
          exact SetOf_congr ((setObjOf_fresh (knd := strKind prog w) led).setOf hget (by unfold scanBound; omega)) (fun _ => rfl) rfl
        case hR =>
          intro s' hm hS'
          obtain ⟨h', g', d', tk', os'⟩ := s'
          have eg : g' = s.gens := hm.gens
          have ed : d' = s.drawn := hm.drawn
          have eo : os' = s.os := hm.os
          subst eg; subst ed; subst eo
          show wpAny _ _ _ _ _ _
          refine wpAny_pure ?_
          show wpAny _ _ (ret Value.none) _ _ _
          refine wpAny_pure ⟨rfl, h', tk', rfl, hS', fun b o hb e => ?_⟩
          have hb1 : b ≠ s.heap.objs.size := Nat.ne_of_lt hb
          have hb2 : b ≠ (s.heap.push { cls := .type "set", dict := none, data := .set #[] 0 (.fresh 0 0 led) }).objs.size := by
            rw [Heap.size_push]; exact Nat.ne_of_lt (Nat.lt_succ_of_lt hb)
          exact hm.heap b o (by simp only [List.mem_cons, List.mem_singleton, List.not_mem_nil, or_false, not_or]; exact ⟨hb1, hb2⟩) (Heap.get?_push_of_some _ (Heap.get?_push_of_some _ e))
      · cases r₂ with
        | error e => exact hr₂
        | ok fl₂ =>
          cases fl₂ with
          | ret r =>
            obtain ⟨rfl, h', tk, rfl, hS', hk'⟩ := hr₂
            repeat (any_goals (first | assumption | wp_step))
            exact h _ _ hS' hk'
          | _ => exact hr₂.elim
    | _ => exact hr.elim
end
/-- how many unlike texts -/
def unlike (xs : List Str) : Nat := (xs.foldl sStep []).length
theorem sMet_all (xs : List Str) : sMet (fun i => xs.getD i Str.empty) xs.length = xs.foldl sStep [] := by
  unfold sMet
  congr 1
  refine List.ext_getElem (by simp) fun i h1 h2 => ?_
  simp at h1 h2 ⊢
  rw [List.getElem?_eq_getElem h2]; rfl
section
variable {X : Cx} {K : PySem.W.Frag} {B : Bs} {W : WX} {σ : Sg} {c c' c2 c0 : CM} {H H' H2 Hs H0 : Hp} {e e' : Ev}
def tSetTxt (K : PySem.W.Frag) (ta : TE) : TE := fun σ H Q => ta σ H fun x H1 => ∃ (l : Addr) (xs : List Str), x = .ref l ∧ SqL K H1 l (xs.map V.str) ∧ xs.length ≤ 4000 ∧ Q (.int (unlike xs : Nat)) H1
theorem unlike_le (xs : List Str) : unlike xs ≤ xs.length := by
  have := sMet_len (fun i => xs.getD i Str.empty) xs.length
  rwa [sMet_all] at this
theorem pe_setTxt {a : Expr} {ta : TE} {p p2 q pos : Pos} (hg : Gl X "len") (hm : X.mg "len" = none) (hg2 : Gl X "set") (hm2 : X.mg "set" = none) (ha : PE X a ta) (hc : X.calm = true)
    (na : starEach [a] X.env = (false, eval a X.env) :: starEach [] X.env) : PE X (.Call (.Name "len" p) [.Call (.Name "set" p2) [a] [] q] [] pos) (tSetTxt X.K ta) := by
  refine ⟨fun pins s σ H Q I h => ?_⟩
  refine Call_ (ld_blt I hg hm boot_len (PyProof.Rows.callWith_builtin1 (PyProof.Rows.args_cons (Call_ (ld_blt I hg2 hm2 boot_set ?_)) rfl) rfl rfl))
  refine PyProof.Rows.callWith_type1 (PyProof.Rows.args_cons (thn (ha.run pins s σ H _ I h) fun v s1 ⟨x, H1, I1, r1, l, xs, ex, hq, hl, q1⟩ => PyProof.Rows.args_nil ?_) na) na rfl
  subst ex
  cases r1
  obtain ⟨its, r, pl, hz⟩ := I1.list hq
  have hlen : its.toArray.size = xs.length := by rw [List.size_toArray, ← r.length, List.length_map]
  refine setTxt_call (I1.ok.hd hc) pl.isList (by simpa using Vals.strs r) (by rw [hlen]; unfold scanBound; omega) fun h' tk hS hk => PyProof.Rows.args_nil ?_
  rw [hlen, sMet_all] at hS
  obtain ⟨o, es, ep, t, ho, hex, hd, _, _, _, hf, hn⟩ := hS
  have I2 : Inv X pins σ H1 { s1 with heap := h', toks := tk } := I1.kept fun b o e => hk b o (Heap.lt_size e) e
  have hu := unlike_le xs
  unfold unlike at hu
  exact call_len_set ho hex hd hf (by rw [hn]; omega) ⟨.int (unlike xs : Nat), H1, I2.tok _, ⟨_, by rw [hn]; rfl⟩, q1⟩
def lenSetM (A : M Rv) : M Rv := A.bind fun r e => match view r e with
  | some (.lst ds) => match strsOf ds with
    | some xs => if xs.length ≤ 4000 then .ok (.fz (.int (unlike xs : Nat))) e else .stuck
    | none => .stuck
  | _ => .stuck
theorem se_lenSet {a : Expr} {A : M Rv} {p p2 q pos : Pos} (hg : Gl X "len") (hm : X.mg "len" = none) (hg2 : Gl X "set") (hm2 : X.mg "set" = none) (ha : SE X B W a A) (hc : X.calm = true := by rfl)
    (na : starEach [a] X.env = (false, eval a X.env) :: starEach [] X.env := by rfl) : SE X B W (.Call (.Name "len" p) [.Call (.Name "set" p2) [a] [] q] [] pos) (lenSetM A) :=
  ⟨PE.imp (pe_setTxt hg hm hg2 hm2 ha.pe hc na) fun σ H Q ⟨c, e, R, p⟩ => tE.bind p R fun c1 H1 e1 v1 r1 R1 S1 q1 p1 => by
    split at p1
    · rename_i ds w
      cases w2 : strsOf ds with
      | none => rw [w2] at p1; exact p1.elim
      | some xs =>
        rw [w2] at p1
        dsimp only at p1
        split at p1
        · rename_i hl
          obtain ⟨l, vs, rfl, g1, g2⟩ := (view_ok R1 q1 w).list
          have := strsOf_ok g2 w2
          subst this
          exact ⟨l, xs, rfl, SqL.of g1, hl, p1 c1 H1 _ R1 Step.refl (.int _)⟩
        · exact p1.elim
    · exact p1.elim⟩
/-! ### little things -/
theorem se_gstr {x z : Str} {pos : Pos} (h : ∃ t, X.mg x = some (.str z t)) (hg : Gl X x) (hd : (x == ("__debug__" : Str)) = false := by decide) : SE X B W (.Name x pos) (constM (.str z)) := by
  obtain ⟨t, h⟩ := h
  exact se_const (pe_glob (v := .str z) hg h ⟨t, rfl⟩ hd) rfl
theorem se_gint {x : Str} {i : Int} {pos : Pos} (h : ∃ t, X.mg x = some (.int i t)) (hg : Gl X x) (hd : (x == ("__debug__" : Str)) = false := by decide) : SE X B W (.Name x pos) (constM (.int i)) := by
  obtain ⟨t, h⟩ := h
  exact se_const (pe_glob (v := .int i) hg h ⟨t, rfl⟩ hd) rfl
theorem hu65 {A : Around} {k : Nat} (hr : Room k A) : A.units + 65 < cLine := by have := hr.un; omega
theorem hu64 {A : Around} {k : Nat} (hr : Room k A) : A.units + 64 < cLine := by have := hr.un; omega
theorem hu1 {A : Around} {k : Nat} (hr : Room k A) : A.units + 1 < cLine := by have := hr.un; omega
theorem bt_len : bootBuiltins "len" = some (.builtin "len") := by decide +kernel
theorem bt_all : bootBuiltins "all" = some (.builtin "all") := by decide +kernel
theorem bt_any : bootBuiltins "any" = some (.builtin "any") := by decide +kernel
theorem bt_max : bootBuiltins "max" = some (.builtin "max") := by decide +kernel
theorem bt_min : bootBuiltins "min" = some (.builtin "min") := by decide +kernel
theorem bt_sum : bootBuiltins "sum" = some (.builtin "sum") := by decide +kernel
theorem bt_isinstance : bootBuiltins "isinstance" = some (.builtin "isinstance") := by decide +kernel
theorem bt_int : bootBuiltins "int" = some (.type "int") := by decide +kernel
theorem bt_str : bootBuiltins "str" = some (.type "str") := by decide +kernel
theorem bt_bool : bootBuiltins "bool" = some (.type "bool") := by decide +kernel
theorem bt_tuple : bootBuiltins "tuple" = some (.type "tuple") := by decide +kernel
theorem bt_list : bootBuiltins "list" = some (.type "list") := by decide +kernel
end
end Sc

set_option Elab.async false
set_option linter.all false
set_option autoImplicit false
set_option maxRecDepth 100000
set_option maxHeartbeats 800000
namespace Sc
open PySem PySem.Spec PyProof.Rows L2
section
variable {X : Cx} {K : PySem.W.Frag} {B : Bs} {W : WX} {σ : Sg} {c c' c2 c0 : CM} {H H' H2 Hs H0 : Hp} {e e' : Ev} {m m2 : M Fl} {st : Stmt} {ss : List Stmt}
/-! ### slots that nobody reads any more -/
theorem Rep.wipeEnv (R : Rep K B c σ H e) : ∀ vs : List Nat, Rep K B c σ H (wipeE e vs)
  | [] => R
  | v :: vs => (R.wipeEnv vs).set_env fun _ _ => trivial
def wipeS (vs : List Nat) (m : M Fl) : M Fl := fun e => match m e with
  | .ok .nx e' => .ok .nx (wipeE e' vs)
  | .ok .ct e' => .ok .ct (wipeE e' vs)
  | .ok .bk e' => .ok .bk (wipeE e' vs)
  | r => r
theorem tS_wipe {vs : List Nat} {Dn : Ends} (h : tS K B W (wipeS vs m) Dn σ H) : tS K B W m Dn σ H := by
  obtain ⟨c, e, R, p⟩ := h
  refine ⟨c, e, R, ?_⟩
  unfold wipeS at p
  cases q : m e with
  | stuck => rw [q] at p; exact p
  | exc x e1 => rw [q] at p; exact p
  | ok f e1 =>
    rw [q] at p
    cases f with
    | nx => exact fun c1 σ1 H1 R1 S1 => p c1 σ1 H1 (R1.wipeEnv vs) S1
    | bk => exact fun c1 σ1 H1 R1 S1 => p c1 σ1 H1 (R1.wipeEnv vs) S1
    | ct => exact fun c1 σ1 H1 R1 S1 => p c1 σ1 H1 (R1.wipeEnv vs) S1
    | rt r => exact p
theorem ss_wipe {vs : List Nat} (h : SS X B W st m) : SS X B W st (wipeS vs m) := ⟨PS.imp h.ps fun _ _ _ => tS_wipe⟩
theorem sb_wipe {vs : List Nat} (h : SB X B W ss m) : SB X B W ss (wipeS vs m) := ⟨PSs.imp h.pss fun _ _ _ => tS_wipe⟩
theorem PS.or {t t' : TS} (h : PS X st t) (k : PS X st t') : PS X st (fun D σ H => t D σ H ∨ t' D σ H) := ⟨fun pins s σ H D I q => by
  rcases q with q | q
  · exact h.run pins s σ H D I q
  · exact k.run pins s σ H D I q⟩
/-! ### dicts -/
def dic0M : M Rv := fun e => .ok (.own (.dic [] [])) e
theorem se_dict0 {pos : Pos} : SE X B W (.Dict [] [] pos) dic0M := ⟨PE.imp pe_dnewK fun σ H Q ⟨c, e, R, p⟩ => fun a ha => by
  have G : Gr c H (cset c a .oth) (upd H a (.dK [])) := Gr.new R.unt ha (by simp)
  exact p _ _ _ (R.grow G) G.step ⟨a, rfl, cset_same, ha, [], upd_same, rfl, .nil⟩⟩
/-- a key's new value -/
def putDk : Str → D → List Str → List D → Option (List Str × List D)
  | f, d, [], [] => some ([f], [d])
  | f, d, k :: ks, x :: ds => if k = f then some (k :: ks, d :: ds) else match putDk f d ks ds with
    | some (ks', ds') => some (k :: ks', x :: ds')
    | none => none
  | _, _, _, _ => none
/-- as put where the key stands once -/
theorem putK_cons_ne {p : Key × V} {r : List (Key × V)} {k : Key} {v : V} (h : p.1 ≠ k) : putK (p :: r) k v = p :: putK r k v := by
  unfold putK
  rw [List.any_cons, decide_eq_false h, Bool.false_or]
  split
  · rw [List.map_cons, if_neg h]
  · rw [List.cons_append]
theorem putK_cons_eq {p : Key × V} {r : List (Key × V)} {k : Key} {v : V} (h : p.1 = k) (hr : ∀ q ∈ r, q.1 ≠ k) : putK (p :: r) k v = (k, v) :: r := by
  unfold putK
  rw [List.any_cons, decide_eq_true h, Bool.true_or, if_pos rfl, List.map_cons, if_pos h, h]
  congr 1
  exact (List.map_congr_left (g := id) fun q hq => by rw [if_neg (hr q hq)]; rfl).trans (List.map_id _)
theorem putDk_ok {f : Str} {v : V} {d : D} (hv : Fz K c H v d) : ∀ {kvs : List (Key × V)} {ks ks' : List Str} {ds ds' : List D}, kvs.map (·.1) = ks.map Sum.inr → ks.Nodup → FzA K c H (kvs.map (·.2)) ds → putDk f d ks ds = some (ks', ds') →
    (putK kvs (Sum.inr f) v).map (·.1) = ks'.map Sum.inr ∧ FzA K c H ((putK kvs (Sum.inr f) v).map (·.2)) ds'
  | [], [], _, _, _, _, _, h, w => by
    cases h
    simp [putDk] at w
    obtain ⟨rfl, rfl⟩ := w
    exact ⟨rfl, .cons hv .nil⟩
  | [], k :: ks, _, _, _, h, _, _, _ => by simp at h
  | p :: kvs, [], _, _, _, h, _, _, _ => by simp at h
  | (pk, pv) :: kvs, k :: ks, ks', ds, ds', h, nd, g, w => by
    simp at h
    obtain ⟨rfl, h⟩ := h
    cases g with
    | @cons _ d0 _ ds0 a b =>
      simp only [putDk] at w
      rw [List.nodup_cons] at nd
      split at w
      · rename_i q
        simp at w
        obtain ⟨rfl, rfl⟩ := w
        subst q
        rw [putK_cons_eq rfl fun q hq z => nd.1 (by
          have : q.1 ∈ kvs.map (·.1) := List.mem_map.mpr ⟨q, hq, rfl⟩
          rw [show kvs.map (·.1) = ks.map Sum.inr by simpa using h, z] at this
          obtain ⟨k', hk', e⟩ := List.mem_map.mp this
          cases e; exact hk')]
        exact ⟨by simpa using h, .cons hv b⟩
      · rename_i q
        cases w2 : putDk f d ks ds0 with
        | none => rw [w2] at w; cases w
        | some pr =>
          obtain ⟨k2, d2⟩ := pr
          rw [w2] at w
          simp at w
          obtain ⟨rfl, rfl⟩ := w
          rw [putK_cons_ne (by simpa using q)]
          obtain ⟨h1, h2⟩ := putDk_ok hv (kvs := kvs) (by simpa using h) nd.2 b w2
          exact ⟨by rw [List.map_cons, h1]; rfl, .cons a h2⟩
def dicAt (i : Nat) (e : Ev) : Option (Bool × List Str × List D) := match e[i]? with
  | some (.own (.dic ks ds)) => some (false, ks, ds)
  | some (.io (.dic ks ds)) => some (true, ks, ds)
  | _ => none
theorem dicAt_ok {i : Nat} {k : Bool} {ks : List Str} {ds : List D} (h : dicAt i e = some (k, ks, ds)) : e[i]? = some (slOf k (.dic ks ds)) := by
  unfold dicAt at h
  split at h <;> simp at h
  · rename_i q; obtain ⟨rfl, rfl, rfl⟩ := h; exact q
  · rename_i q; obtain ⟨rfl, rfl, rfl⟩ := h; exact q
/-- s[k] = v, s a slot that holds a dict -/
def putDM (i : Nat) (A C : M Rv) : M Fl := A.bind fun r e => match freeze r e with
  | some (d, e1) => match dicAt i e1 with
    | some _ => (C.bind fun ri e2 => match view ri e2 with
      | some (.str k) => match dicAt i e2 with
        | some (b, ks, ds) => if ks.length < sizeLine ∧ ks.Nodup then match putDk k d ks ds with
          | some (ks', ds') => .ok .nx (e2.set i (slOf b (.dic ks' ds')))
          | none => .stuck
          else .stuck
        | none => .stuck
      | _ => .stuck) e1
    | none => .stuck
  | none => .stuck
theorem putD_of {i : Nat} {A C : M Rv} {Dn : Ends} (h : tS K B W (putDM i A C) Dn σ H) : tE K B W A σ H fun v H1 => ∃ x, σ[i]? = some (some x) ∧ tE K B W C σ H1 fun y H2 => ∃ a H4, x = .ref a ∧ DPut H2 a y v H4 ∧ Dn.nx σ H4 := by
  obtain ⟨c, e, R, p⟩ := h
  refine tE.bindS p R fun c1 H1 e1 v r R1 S1 rv p1 => ?_
  cases w : freeze r e1 with
  | none => rw [w] at p1; exact p1.elim
  | some pr =>
    obtain ⟨d, e2⟩ := pr
    rw [w] at p1
    dsimp only at p1
    obtain ⟨c2, R2, S2, F2, f2, o2⟩ := freeze_ok R1 S1 rv w
    cases w0 : dicAt i e2 with
    | none => rw [w0] at p1; exact p1.elim
    | some kd =>
      obtain ⟨k0, ks0, ds0⟩ := kd
      rw [w0] at p1
      dsimp only at p1
      obtain ⟨a, g1, g2, xs0, g3, g4, g5⟩ := sl_at R2 (dicAt_ok w0)
      refine ⟨.ref a, g1, c2, e2, R2, ?_⟩
      unfold M.bind at p1
      cases q : C e2 with
      | stuck => rw [q] at p1; exact p1.elim
      | exc x e3 => rw [q] at p1; exact fun c3 H3 cls dd R3 S3 rx => p1 c3 σ H3 cls dd R3 (S2.trans S3) rx
      | ok ri e3 =>
        rw [q] at p1
        intro c3 H3 y R3 S3 v3
        dsimp only at p1
        split at p1
        · rename_i k wk
          rw [(view_ok R3 v3 wk).str]
          cases w4 : dicAt i e3 with
          | none => rw [w4] at p1; exact p1.elim
          | some bd =>
            obtain ⟨b, ks, ds⟩ := bd
            rw [w4] at p1
            dsimp only at p1
            obtain ⟨a', b1, b2, xs, b3, b4, b5⟩ := sl_at R3 (dicAt_ok w4)
            rw [g1] at b1
            cases b1
            split at p1
            · rename_i hz
              cases w5 : putDk k d ks ds with
              | none => rw [w5] at p1; exact p1.elim
              | some pr2 =>
                obtain ⟨ks', ds'⟩ := pr2
                rw [w5] at p1
                have F3 := F2.mono (S3.frz R2.trk)
                obtain ⟨z1, z2⟩ := putDk_ok F3 b4 hz.2 b5 w5
                have nf : ∀ z, c3 z = .frz → z ≠ a := fun z hz q => by rw [q, b2] at hz; cases b <;> simp at hz
                have f : Frz c3 H3 c3 (upd H3 a (.dK (putK xs (Sum.inr k) v))) := fun z hz => ⟨hz, fun _ => upd_ne (nf z hz)⟩
                have hl : xs.length < sizeLine := by
                  have := congrArg List.length b4
                  rw [List.length_map, List.length_map] at this
                  omega
                refine ⟨a, _, rfl, DPut.k (k := Sum.inr k) b3 hl, ?_⟩
                obtain ⟨R4, f4⟩ := R3.write (o := .dic ks' ds') g1 b2 (by rw [b3]; simp) (fun s hs => by rw [dicAt_ok w4] at hs; cases hs; exact ⟨_, rfl⟩) ⟨_, upd_same, z1, z2.mono f⟩
                exact p1 c3 σ _ R4 ((S2.trans S3).write b2)
            · exact p1.elim
        · exact p1.elim
/-- s[k] = v, s a slot that holds a list or a dict -/
def putM (i : Nat) (A C : M Rv) : M Fl := fun e => match dicAt i e with
  | some _ => putDM i A C e
  | none => putLM i A C e
theorem ss_put {o ix ex : Expr} {tpos pos : Pos} {i : Nat} {A C : M Rv} (hu : X.A.units + 1 < cLine) (h : SE X B W ex A) (ho : PE X o (tVar i)) (hi : SE X B W ix C) (hs : swapsWithSole [.Subscript o ix tpos] ex pos.line X.env = pure false := by rfl) (hw : swappedStores [.Subscript o ix tpos] ex X.env = pure none := by rfl)
    (h1 : (assignEach [.Subscript o ix tpos] X.env).map (·.2) = [assign (.Subscript o ix tpos) X.env] := by rfl)
    (ha : ∀ v, assign (.Subscript o ix tpos) X.env v = (do
      let ov ← holding [v] (eval o X.env)
      let iv ← holding [v, ov] (eval ix X.env)
      standAt tpos
      holding [v, ov, iv] (setItem ov iv v)
      release [v, ov, iv] []) := by intro _; rfl)
    (hs2 : swapsWith ex (some (.Subscript o ix tpos)) pos.line X.env = pure false := by rfl) :
    SS X B W (.Assign [.Subscript o ix tpos] ex pos) (putM i A C) :=
  ⟨PS.imp (PS.or (ps_asg h.pe (pg_sub ho hi.pe set_list ha) hs hw h1) (ps_dput hu ho hi.pe h.pe hs2)) fun Dn σ H ⟨c, e, R, p⟩ => by
    unfold putM at p
    split at p
    · exact .inr (putD_of ⟨c, e, R, p⟩)
    · exact .inl (putL_of ⟨c, e, R, p⟩)⟩
/-- list(x), a dict too -/
def listF2 : List D → Option Rv
  | [.dic ks _] => some (.own (.lst (ks.map D.str)))
  | ds => listF ds
theorem FzA.strs : ∀ ks : List Str, FzA K c H (ks.map V.str) (ks.map D.str)
  | [] => .nil
  | k :: ks => .cons (.str k) (FzA.strs ks)
theorem call_list2 (hc : X.calm = true) : CallR X (.type "list") (fun xs H Q => (∃ p ys, xs = [.ref p] ∧ (SqL X.K H p ys ∨ SqT X.K H p ys) ∧ ∀ l, H l = none → Q (.ref l) (upd H l (.lst ys))) ∨ (∃ (a : Addr) (kvs : List (Key × V)), xs = [.ref a] ∧ Rd H a (.dK kvs) ∧ ∀ p, H p = none → Q (.ref p) (upd H p (.lst (kvs.map fun kv => kV kv.1))))) := CallR.or call_list_of (call_listD hc)
theorem bf_list2 : BF X listF2 (fun xs H Q => (∃ p ys, xs = [.ref p] ∧ (SqL X.K H p ys ∨ SqT X.K H p ys) ∧ ∀ l, H l = none → Q (.ref l) (upd H l (.lst ys))) ∨ (∃ (a : Addr) (kvs : List (Key × V)), xs = [.ref a] ∧ Rd H a (.dK kvs) ∧ ∀ p, H p = none → Q (.ref p) (upd H p (.lst (kvs.map fun kv => kV kv.1))))) := by
  intro c H vs ds rv Q u h w hq
  unfold listF2 at w
  split at w
  · cases w
    cases h with
    | cons h1 h2 =>
      cases h2
      obtain ⟨p, kvs, rfl, g1, g2, g3⟩ := h1.dic
      rename_i ks ds' 
      refine .inr ⟨p, kvs, rfl, .inl g1, fun l hl => ?_⟩
      have e : kvs.map (fun kv => kV kv.1) = ks.map V.str := by
        have := congrArg (List.map kV) g2
        rw [List.map_map, List.map_map] at this
        exact this
      rw [e]
      obtain ⟨G, N⟩ := new_lst u hl (FzA.strs ks)
      exact hq _ _ _ G N
  · exact .inl (bf_list c H vs _ rv Q u h w hq)
/-- * of ints, of a list and an int -/
def mulF2 : D → D → Option Rv
  | .lst ds, .int k => if -(2 ^ 63) ≤ k ∧ k < 2 ^ 63 ∧ ds.length * k.toNat ≤ sizeLine then some (.own (.lst (List.replicate k.toNat ds).flatten)) else none
  | a, b => mulF a b
theorem FzA.rep {vs : List V} {ds : List D} (h : FzA K c H vs ds) : ∀ k : Nat, FzA K c H (List.replicate k vs).flatten (List.replicate k ds).flatten
  | 0 => .nil
  | k + 1 => by rw [List.replicate_succ, List.replicate_succ, List.flatten_cons, List.flatten_cons]; exact h.append (FzA.rep h k)
theorem op_mul2 : OpR X (binaryOp .Mult) (fun x y H Q => rI CMul (fun i j => .int (i * j)) x y H Q ∨ rRep x y H Q) := OpR.or op_mul op_rep
theorem opf_mul2 : OpF X mulF2 (fun x y H Q => rI CMul (fun i j => .int (i * j)) x y H Q ∨ rRep x y H Q) := by
  intro c H x y a b rv Q u va vb hw hq
  unfold mulF2 at hw
  split at hw
  · split at hw
    · rename_i ds k hk
      cases hw
      obtain ⟨p, xs, rfl, h1, h2⟩ := va.list
      refine .inr ⟨p, k, xs, rfl, vb.int, h1, hk.1, hk.2.1, by rw [h2.length]; exact hk.2.2, fun l hl => ?_⟩
      obtain ⟨G, N⟩ := new_lst u hl (h2.rep k.toNat)
      exact hq _ _ _ G N
    · cases hw
  · exact .inl (opf_mul c H x y _ _ rv Q u va vb hw hq)

/-- // by a positive divisor of fewer than 9000 bits -/
def fdivF2 := iiF (fun i j => decide (0 < j) && decide (j.natAbs.log2 < 9000)) fun i j => .int (i / j)
theorem opf_fdiv2 : OpF X fdivF2 (rI CDivW fun i j => .int (i / j)) := opf_ii (fun i j h => by simp at h; exact h) fun _ _ => rfl
/-- == : flat things at once, others by their data -/
def eqF2 : D → D → Option Bool
  | .str x, .str y => some (decide (x = y))
  | .int i, .int j => some (decide (i = j))
  | .bl i, .bl j => some (decide (i = j))
  | a, b => eqF a b
def eqOF2 (a b : D) : Option Rv := (eqF2 a b).map fun k => .fz (.bl k)
def neOF2 (a b : D) : Option Rv := (eqF2 a b).map fun k => .fz (.bl !k)
theorem op_eq2 (hu : X.A.units + 64 < cLine) : OpR X (compareOp .Eq) (fun x y H Q => rEq x y H Q ∨ rEqD X.K x y H Q) := OpR.or op_eq (op_eqD hu)
theorem op_ne2 (hu : X.A.units + 64 < cLine) : OpR X (compareOp .NotEq) (fun x y H Q => rNe x y H Q ∨ rNeD X.K x y H Q) := OpR.or op_ne (op_neD hu)
theorem eqF2_ok {x y : V} {a b : D} {k : Bool} (va : Vw K c H x a) (vb : Vw K c H y b) (h : eqF2 a b = some k) : (scal x y = true ∧ decide (x = y) = k) ∨ eqF a b = some k := by
  unfold eqF2 at h
  split at h
  · cases h; rw [va.str, vb.str]; exact .inl ⟨rfl, by simp⟩
  · cases h; rw [va.int, vb.int]; exact .inl ⟨rfl, by simp⟩
  · cases h; rw [va.bl, vb.bl]; exact .inl ⟨rfl, by simp⟩
  · exact .inr h
theorem opf_eq2 : OpF X eqOF2 (fun x y H Q => rEq x y H Q ∨ rEqD X.K x y H Q) := by
  intro c H x y a b rv Q u va vb hw hq
  unfold eqOF2 at hw
  cases q : eqF2 a b with
  | none => rw [q] at hw; cases hw
  | some k =>
    rw [q] at hw
    rcases eqF2_ok va vb q with ⟨h1, h2⟩ | h
    · cases hw; exact .inl ⟨h1, hq c H _ (Gr.refl u) (by rw [h2]; exact .bl k)⟩
    · exact .inr (opf_eq c H x y a b rv Q u va vb (by unfold eqOF; rw [h]; exact hw) hq)
theorem opf_ne2 : OpF X neOF2 (fun x y H Q => rNe x y H Q ∨ rNeD X.K x y H Q) := by
  intro c H x y a b rv Q u va vb hw hq
  unfold neOF2 at hw
  cases q : eqF2 a b with
  | none => rw [q] at hw; cases hw
  | some k =>
    rw [q] at hw
    rcases eqF2_ok va vb q with ⟨h1, h2⟩ | h
    · cases hw; exact .inl ⟨h1, hq c H _ (Gr.refl u) (by rw [h2]; exact .bl _)⟩
    · exact .inr (opf_ne c H x y a b rv Q u va vb (by unfold neOF; rw [h]; exact hw) hq)

def negM (A : M Rv) : M Rv := A.bind fun r e => match view r e with
  | some (.int i) => .ok (.fz (.int (-i))) e
  | _ => .stuck
theorem se_neg {a : Expr} {pos : Pos} {A : M Rv} (ha : SE X B W a A) : SE X B W (.UnaryOp .USub a pos) (negM A) :=
  ⟨PE.imp (pe_un un_neg ha.pe) fun σ H Q ⟨c, e, R, p⟩ => tE.bind p R fun c1 H1 e1 v1 r1 R1 S1 q1 p1 => by
    split at p1
    · rename_i i w
      exact ⟨i, (view_ok R1 q1 w).int, p1 c1 H1 _ R1 Step.refl (.int _)⟩
    · exact p1.elim⟩

/-! a, b = x, y -/
theorem ss_par {i j : Nat} {x y : Str} {a b : Expr} {px py pt pos : Pos} {kt k2 : Nat} {pt2 : Pos} {G : M (List Rv)} (hc : X.calm = true) (hN : X.N.Nodup) (hi : X.N[i]? = some x) (hj : X.N[j]? = some y) (hij : i ≠ j)
    (hx : X.env.scope.names.lookup x = some .local) (hy : X.env.scope.names.lookup y = some .local) (ha : SA X B W [a, b] G)
    (hw : swappedStores [.Tuple [.Name x px, .Name y py] kt pt] (.Tuple [a, b] k2 pt2) X.env = pure (some [x, y]))
    (hs : swapsWithSole [.Tuple [.Name x px, .Name y py] kt pt] (.Tuple [a, b] k2 pt2) pos.line X.env = pure false := by rfl) :
    SS X B W (.Assign [.Tuple [.Name x px, .Name y py] kt pt] (.Tuple [a, b] k2 pt2) pos) (asgM (tupGn 2 (consG (nameG i) (consG (nameG j) nilG))) (tupM G)) :=
  ⟨PS.imp (ps_par hc hN hi hj hij hx hy ha.pa hw hs) fun Dn σ H ⟨c, e, R, p⟩ => by
    refine ⟨c, e, R, ?_⟩
    unfold asgM tupM M.bind at p
    cases q : G e with
    | stuck => rw [q] at p; exact p
    | exc x e1 => rw [q] at p; exact fun c1 H1 cls dd R1 S1 rx => p c1 σ H1 cls dd R1 S1 rx
    | ok rs e1 =>
      rw [q] at p
      dsimp only at p
      intro c1 H1 vs as R1 S1 V1
      cases w : freezeAll rs e1 with
      | none => rw [w] at p; exact p.elim
      | some pr =>
        obtain ⟨ds, e2⟩ := pr
        rw [w] at p
        dsimp only at p
        obtain ⟨c2, R2, S2, F2, f2⟩ := freezeAll_ok R1 S1 V1 w
        split at p
        · rename_i r4 e4 hok
          split at hok
          · simp only [Rs.ok.injEq] at hok
            obtain ⟨rfl, rfl⟩ := hok
            simp only [freeze, tupGn] at p
            match ds, vs, F2, p with
            | [], _, _, p => exact p.elim
            | [_], _, _, p => exact p.elim
            | _ :: _ :: _ :: _, _, _, p => simp at p; exact p.elim
            | [d1, d2], [v1, v2], .cons a1 (.cons a2 _), p =>
              simp only [List.length_cons, List.length_nil, if_true, consG, nilG, nameG] at p
              by_cases h1 : i < e2.length
              · rw [if_pos h1] at p
                dsimp only at p
                rw [List.length_set] at p
                by_cases h2 : j < e2.length
                · rw [if_pos h2] at p
                  have R3 := R2.set_slot (s := .fz d1) (w := some v1) ⟨v1, rfl, a1⟩ h1
                  have R4 := R3.set_slot (s := .fz d2) (w := some v2) ⟨v2, rfl, a2⟩ (by rw [List.length_set]; exact h2)
                  exact ⟨v1, v2, rfl, p _ _ _ R4 S2⟩
                · rw [if_neg h2] at p; exact p.elim
              · rw [if_neg h1] at p; exact p.elim
          · cases hok
        · rename_i hok
          split at hok <;> cases hok
        · exact p.elim⟩
end
end Sc

set_option Elab.async false
set_option linter.all false
set_option autoImplicit false
set_option maxRecDepth 100000
set_option maxHeartbeats 400000
namespace Sc
open PySem Builtin Builtin.Str
/-! ### texts as lists of codes -/
def S (l : List Nat) : Str := ⟨l.toArray⟩
theorem S_app (a b : List Nat) : S a ++ S b = S (a ++ b) := by
  show Str.append (S a) (S b) = _
  unfold Str.append S; simp
theorem S_len (a : List Nat) : (S a).length = a.length := by simp [S, Str.length]
theorem S_cps (a : List Nat) : (S a).cps.toList = a := by simp [S]
theorem S_inj {a b : List Nat} : S a = S b ↔ a = b := by
  constructor
  · intro h; have := congrArg (fun s => s.cps.toList) h; simpa [S] using this
  · intro h; rw [h]
theorem S_of (z : Str) : S z.cps.toList = z := by cases z; simp [S]
/-- put between -/
def joinT (sep : List Nat) : List (List Nat) → List Nat
  | [] => []
  | [x] => x
  | x :: y :: r => x ++ sep ++ joinT sep (y :: r)
theorem S_join (sep : List Nat) : ∀ xs : List (List Nat), Txt.join (S sep) (xs.map S) = S (joinT sep xs) := by
  intro xs
  show glued (S sep) (xs.map S) = _
  rw [PySem.StrLaws.glued_eq_join]
  induction xs with
  | nil => rfl
  | cons x xs ih => cases xs with
    | nil => rfl
    | cons y r =>
      show S x ++ S sep ++ Str.join (S sep) ((y :: r).map S) = _
      rw [ih, S_app, S_app]; rfl
theorem S_starts (a b : List Nat) (i : Nat) (h : i ≤ a.length) : Txt.startswith3 (S a) (S b) (i : Int) = b.isPrefixOf (a.drop i) := by
  unfold Txt.startswith3
  have e : PySem.fromIndex (S a).length (i : Int) = i := by unfold PySem.fromIndex; rw [if_neg (by omega)]; omega
  rw [e, PySem.StrLaws.subAt_eq, S_len, S_len, S_cps, S_cps]
  by_cases p : b.isPrefixOf (a.drop i) = true
  · rw [p]
    obtain ⟨r, hr⟩ := List.isPrefixOf_iff_prefix.mp p
    have hl : i + b.length ≤ a.length := by
      have := congrArg List.length hr
      simp at this; omega
    have : (a.drop i).take b.length = b := by rw [← hr]; simp
    simp [hl, this]
  · rw [Bool.eq_false_iff.mpr p]
    have : ¬ ((a.drop i).take b.length = b) := fun q => p (List.isPrefixOf_iff_prefix.mpr (by rw [← q]; exact List.take_prefix _ _))
    simp [this]
end Sc

set_option Elab.async false
set_option linter.all false
set_option autoImplicit false
set_option maxRecDepth 100000
set_option maxHeartbeats 400000
namespace Sc
open PySem L2
/-! ### what isinstance says -/
theorem kit_str_str : kitB "str" "str" = some true := by decide +kernel
theorem kit_str_tuple : kitB "str" "tuple" = some false := by decide +kernel
theorem kit_str_int : kitB "str" "int" = some false := by decide +kernel
theorem kit_str_bool : kitB "str" "bool" = some false := by decide +kernel
theorem kit_int_str : kitB "int" "str" = some false := by decide +kernel
theorem kit_int_int : kitB "int" "int" = some true := by decide +kernel
theorem kit_int_bool : kitB "int" "bool" = some false := by decide +kernel
theorem kit_int_tuple : kitB "int" "tuple" = some false := by decide +kernel
theorem kit_bool_int : kitB "bool" "int" = some true := by decide +kernel
theorem kit_bool_bool : kitB "bool" "bool" = some true := by decide +kernel
theorem kit_bool_tuple : kitB "bool" "tuple" = some false := by decide +kernel
theorem kit_bool_str : kitB "bool" "str" = some false := by decide +kernel
theorem kit_tuple_tuple : kitB "tuple" "tuple" = some true := by decide +kernel
theorem kit_tuple_str : kitB "tuple" "str" = some false := by decide +kernel
theorem kit_tuple_int : kitB "tuple" "int" = some false := by decide +kernel
theorem kit_tuple_bool : kitB "tuple" "bool" = some false := by decide +kernel
theorem kit_none_tuple : kitB "NoneType" "tuple" = some false := by decide +kernel
theorem kit_none_str : kitB "NoneType" "str" = some false := by decide +kernel
theorem kit_none_int : kitB "NoneType" "int" = some false := by decide +kernel
theorem kit_none_bool : kitB "NoneType" "bool" = some false := by decide +kernel
theorem kit_list_tuple : kitB "list" "tuple" = some false := by decide +kernel
theorem kit_list_str : kitB "list" "str" = some false := by decide +kernel
theorem kit_list_int : kitB "list" "int" = some false := by decide +kernel
/-! ### loops -/
/-- a comprehension whose parts are known -/
theorem lcLoop_map {vs : List Nat} {g : TGf} {T : M Bool} {A : M Rv} (f : D → D) : ∀ (ds acc : List D) (e : Ev), acc.length + ds.length ≤ sizeLine →
    (∀ d ∈ ds, ∃ e1 e2 r e3 e4, g d e = some e1 ∧ T e1 = .ok true e2 ∧ A e2 = .ok r e3 ∧ freeze r e3 = some (f d, e4) ∧ wipeE e4 vs = e) → lcLoop vs g T A ds acc e = .ok (acc ++ ds.map f) e
  | [], acc, e, _, _ => by simp [lcLoop, M.pure]
  | d :: ds, acc, e, hl, h => by
    obtain ⟨e1, e2, r, e3, e4, h1, h2, h3, h4, h5⟩ := h d (by simp)
    simp only [List.length_cons] at hl
    have hl' : acc.length < sizeLine := by omega
    simp only [lcLoop, h1, h2, h3, h4, if_pos hl', h5]
    rw [lcLoop_map f ds (acc ++ [f d]) e (by simp; omega) fun x hx => h x (by simp [hx])]
    simp
/-- a comprehension by an invariant -/
theorem lcLoop_inv {vs : List Nat} {g : TGf} {T : M Bool} {A : M Rv} (P : Nat → List D → Ev → Prop) : ∀ (ds : List D) (k : Nat) (acc : List D) (e : Ev), P k acc e → acc.length + ds.length ≤ sizeLine →
    (∀ j d acc e, ds[j]? = some d → P (k + j) acc e → ∃ e1 e2 r e3 x e4, g d e = some e1 ∧ T e1 = .ok true e2 ∧ A e2 = .ok r e3 ∧ freeze r e3 = some (x, e4) ∧ P (k + j + 1) (acc ++ [x]) (wipeE e4 vs)) →
    ∃ acc' e', lcLoop vs g T A ds acc e = .ok acc' e' ∧ P (k + ds.length) acc' e'
  | [], k, acc, e, h, _, _ => ⟨acc, e, rfl, h⟩
  | d :: ds, k, acc, e, h, hl, hs => by
    obtain ⟨e1, e2, r, e3, x, e4, h1, h2, h3, h4, h5⟩ := hs 0 d acc e rfl h
    simp only [List.length_cons] at hl
    have hl' : acc.length < sizeLine := by omega
    obtain ⟨acc', e', q1, q2⟩ := lcLoop_inv P ds (k + 1) (acc ++ [x]) (wipeE e4 vs) h5 (by simp; omega) fun j d acc e hj hp => by
      have := hs (j + 1) d acc e (by simpa using hj) (by rw [show k + (j + 1) = k + 1 + j by omega]; exact hp)
      rwa [show k + (j + 1) + 1 = k + 1 + j + 1 by omega] at this
    refine ⟨acc', e', ?_, by rw [List.length_cons, show k + (ds.length + 1) = k + 1 + ds.length by omega]; exact q2⟩
    simp only [lcLoop, h1, h2, h3, h4, if_pos hl']
    exact q1
theorem forL_inv {g : TGf} {b : M Fl} (P : Nat → Ev → Prop) : ∀ (ds : List D) (k : Nat) (e : Ev), P k e →
    (∀ j d e, ds[j]? = some d → P (k + j) e → ∃ e1 e2, g d e = some e1 ∧ b e1 = .ok .nx e2 ∧ P (k + j + 1) e2) → ∃ e', forL g b ds e = .ok .nx e' ∧ P (k + ds.length) e'
  | [], k, e, h, _ => ⟨e, rfl, h⟩
  | d :: ds, k, e, h, hs => by
    obtain ⟨e1, e2, h1, h2, h3⟩ := hs 0 d e rfl h
    obtain ⟨e', q1, q2⟩ := forL_inv P ds (k + 1) e2 h3 fun j d e hj hp => by
      have := hs (j + 1) d e (by simpa using hj) (by rw [show k + (j + 1) = k + 1 + j by omega]; exact hp)
      rwa [show k + (j + 1) + 1 = k + 1 + j + 1 by omega] at this
    refine ⟨e', ?_, by rw [List.length_cons, show k + (ds.length + 1) = k + 1 + ds.length by omega]; exact q2⟩
    simp only [forL, h1, h2]
    exact q1
theorem lcM_eq {vs : List Nat} {g : TGf} {T : M Bool} {A : M Rv} {I : M (List D)} {e e1 e2 : Ev} {ds acc : List D} (hI : I e = .ok ds e1) (hv : vs.all (slFz e1) = true) (hl : lcLoop vs g T A ds [] (wipeE e1 vs) = .ok acc e2) : lcM vs g T A I e = .ok (.own (.lst acc)) (restE e1 e2 vs) := by
  simp [lcM, M.bind, hI, hv, hl]
theorem forM_eq {g : TGf} {b : M Fl} {I : M (List D)} {e e1 : Ev} {ds : List D} (hI : I e = .ok ds e1) : forM g b I e = forL g b ds e1 := by
  simp [forM, M.bind, hI]
theorem sStep_nd {σ : List Str} {v : Str} (h : v ∉ σ) : sStep σ v = σ ++ [v] := by simp [sStep, h]
theorem unlike_nd : ∀ (xs σ : List Str), (σ ++ xs).Nodup → xs.foldl sStep σ = σ ++ xs
  | [], σ, _ => by simp
  | x :: xs, σ, h => by
    have h2 : x ∉ σ := fun z => by
      rw [List.nodup_append] at h
      exact h.2.2 x z x (by simp) rfl
    rw [List.foldl_cons, sStep_nd h2, unlike_nd xs (σ ++ [x]) (by simpa using h)]
    simp
theorem unlike_of {xs : List Str} (h : xs.Nodup) : unlike xs = xs.length := by
  unfold unlike
  rw [unlike_nd xs [] (by simpa using h)]
  rfl
end Sc

set_option Elab.async false
set_option linter.all false
set_option autoImplicit false
set_option maxHeartbeats 400000
namespace Sc
open PySem L2
theorem sz0 : (0 ≤ sizeLine) = True := eq_true (by unfold sizeLine; omega)
theorem sz1 : (1 ≤ sizeLine) = True := eq_true (by unfold sizeLine; omega)
theorem sz2 : (2 ≤ sizeLine) = True := eq_true (by unfold sizeLine; omega)
theorem sz3 : (3 ≤ sizeLine) = True := eq_true (by unfold sizeLine; omega)
theorem sz4 : (4 ≤ sizeLine) = True := eq_true (by unfold sizeLine; omega)
theorem sz5 : (5 ≤ sizeLine) = True := eq_true (by unfold sizeLine; omega)
theorem sz6 : (6 ≤ sizeLine) = True := eq_true (by unfold sizeLine; omega)
theorem sq0 : (0 < sizeLine) = True := eq_true (by unfold sizeLine; omega)
theorem sq1 : (1 < sizeLine) = True := eq_true (by unfold sizeLine; omega)
theorem sq2 : (2 < sizeLine) = True := eq_true (by unfold sizeLine; omega)
theorem sq3 : (3 < sizeLine) = True := eq_true (by unfold sizeLine; omega)
theorem sq4 : (4 < sizeLine) = True := eq_true (by unfold sizeLine; omega)
theorem sq5 : (5 < sizeLine) = True := eq_true (by unfold sizeLine; omega)
theorem sq6 : (6 < sizeLine) = True := eq_true (by unfold sizeLine; omega)
theorem boolsOf_true {α : Type} (l : List α) : boolsOf (l.map fun _ => D.bl true) = some (l.map fun _ => true) := by
  induction l with
  | nil => rfl
  | cons a l ih => simp only [List.map_cons, boolsOf, ih]
theorem all_tt {α : Type} (l : List α) : ((l.map fun _ => true).all fun b => b) = true := by simp
theorem forL_pre {α : Type} {g : TGf} {b : M Fl} (f : α → D) (P : List α → Ev → Prop) : ∀ (post pre : List α) (e : Ev), P pre e →
    (∀ p x q e, pre ++ post = p ++ x :: q → P p e → ∃ e1 e2, g (f x) e = some e1 ∧ b e1 = .ok .nx e2 ∧ P (p ++ [x]) e2) → ∃ e', forL g b (post.map f) e = .ok .nx e' ∧ P (pre ++ post) e'
  | [], pre, e, h, _ => ⟨e, rfl, by simpa using h⟩
  | x :: post, pre, e, h, hs => by
    obtain ⟨e1, e2, h1, h2, h3⟩ := hs pre x post e rfl h
    obtain ⟨e', q1, q2⟩ := forL_pre f P post (pre ++ [x]) e2 h3 fun p y q e hj hp => hs p y q e (by rw [← hj]; simp) hp
    exact ⟨e', by simp only [List.map_cons, forL, h1, h2]; exact q1, by simpa using q2⟩
theorem forL_all {α : Type} {g : TGf} {b : M Fl} (f : α → D) (P : List α → Ev → Prop) (xs : List α) (e : Ev) (h : P [] e)
    (hs : ∀ p x q e, xs = p ++ x :: q → P p e → ∃ e1 e2, g (f x) e = some e1 ∧ b e1 = .ok .nx e2 ∧ P (p ++ [x]) e2) : ∃ e', forL g b (xs.map f) e = .ok .nx e' ∧ P xs e' := by
  have := forL_pre (g := g) (b := b) f P xs [] e h (by simpa using hs)
  simpa using this

/-- one turn of a for loop -/
def forS (g : TGf) (b : M Fl) (d : D) (e : Ev) : Option Ev := match g d e with
  | some e1 => match b e1 with
    | .ok .nx e2 => some e2
    | _ => none
  | none => none
theorem forS_some {g : TGf} {b : M Fl} {d : D} {e e2 : Ev} (h : forS g b d e = some e2) : ∃ e1, g d e = some e1 ∧ b e1 = .ok .nx e2 := by
  unfold forS at h
  split at h
  · rename_i e1 h1
    refine ⟨e1, h1, ?_⟩
    split at h
    · rename_i q; cases h; exact q
    · cases h
  · cases h
theorem forM_all {α : Type} {g : TGf} {b : M Fl} {I : M (List D)} (f : α → D) (P : List α → Ev → Prop) (xs : List α) (e : Ev) {e1 : Ev} (hI : I e = .ok (xs.map f) e1) (h : P [] e1)
    (hs : ∀ p x q e, xs = p ++ x :: q → P p e → ∃ e2, forS g b (f x) e = some e2 ∧ P (p ++ [x]) e2) : ∃ e', forM g b I e = .ok .nx e' ∧ P xs e' := by
  obtain ⟨e', h1, h2⟩ := forL_all (g := g) (b := b) f P xs e1 h fun p x q e hx hp => by
    obtain ⟨e2, q1, q2⟩ := hs p x q e hx hp
    obtain ⟨e3, q3, q4⟩ := forS_some q1
    exact ⟨e3, e2, q3, q4, q2⟩
  exact ⟨e', by rw [forM_eq hI]; exact h1, h2⟩
/-- one turn of a comprehension -/
def lcS (g : TGf) (T : M Bool) (A : M Rv) (d : D) (e : Ev) : Option (D × Ev) := match g d e with
  | some e1 => match T e1 with
    | .ok true e2 => match A e2 with
      | .ok r e3 => freeze r e3
      | _ => none
    | _ => none
  | none => none
theorem lcS_some {g : TGf} {T : M Bool} {A : M Rv} {d x : D} {e e4 : Ev} (h : lcS g T A d e = some (x, e4)) : ∃ e1 e2 r e3, g d e = some e1 ∧ T e1 = .ok true e2 ∧ A e2 = .ok r e3 ∧ freeze r e3 = some (x, e4) := by
  unfold lcS at h
  split at h
  · rename_i e1 h1
    split at h
    · rename_i e2 h2
      split at h
      · rename_i r e3 h3
        exact ⟨e1, e2, r, e3, h1, h2, h3, h⟩
      · cases h
    · cases h
  · cases h
/-- a comprehension over mapped items with a plain answer -/
theorem lcM_map {α : Type} {vs : List Nat} {g : TGf} {T : M Bool} {A : M Rv} {I : M (List D)} (f h : α → D) (xs : List α) {e e1 e2 : Ev} (hI : I e = .ok (xs.map f) e1) (hv : vs.all (slFz e1) = true) (hl : xs.length ≤ sizeLine)
    (hs : ∀ x ∈ xs, ∃ e5, lcS g T A (f x) (wipeE e1 vs) = some (h x, e5) ∧ wipeE e5 vs = wipeE e1 vs) (he : restE e1 (wipeE e1 vs) vs = e2) : lcM vs g T A I e = .ok (.own (.lst (xs.map h))) e2 := by
  have go : ∀ (xs : List α) (acc : List D), acc.length + xs.length ≤ sizeLine → (∀ x ∈ xs, ∃ e5, lcS g T A (f x) (wipeE e1 vs) = some (h x, e5) ∧ wipeE e5 vs = wipeE e1 vs) → lcLoop vs g T A (xs.map f) acc (wipeE e1 vs) = .ok (acc ++ xs.map h) (wipeE e1 vs) := by
    intro xs
    induction xs with
    | nil => intro acc _ _; simp [lcLoop, M.pure]
    | cons x xs ih =>
      intro acc hl hs
      obtain ⟨e5, h0, h5⟩ := hs x (by simp)
      obtain ⟨e2, e3, r, e4, h1, h2, h3, h4⟩ := lcS_some h0
      simp only [List.length_cons] at hl
      have hl' : acc.length < sizeLine := by omega
      simp only [List.map_cons, lcLoop, h1, h2, h3, h4, if_pos hl', h5]
      rw [ih (acc ++ [h x]) (by simp; omega) fun y hy => hs y (by simp [hy])]
      simp
  rw [lcM_eq hI hv (by simpa using go xs [] (by simpa using hl) hs), he]
end Sc

set_option linter.all false
set_option autoImplicit false
set_option Elab.async false
namespace Sc
open PySem L2
theorem eqOF_int (a b : Int) : eqOF (.int a) (.int b) = some (.fz (.bl (a == b))) := by
  have h : eqF (.int a) (.int b) = some (a == b) := rfl
  simp only [eqOF, h]; rfl
theorem neOF_int (a b : Int) : neOF (.int a) (.int b) = some (.fz (.bl (!(a == b)))) := by
  have h : eqF (.int a) (.int b) = some (a == b) := rfl
  simp only [neOF, h]; rfl
theorem addF_ll (a b : List D) : addF (.lst a) (.lst b) = if a.length + b.length ≤ sizeLine then some (.own (.lst (a ++ b))) else none := rfl
theorem addF_tt (a b : List D) : addF (.tup a) (.tup b) = if a.length + b.length ≤ sizeLine then some (.fz (.tup (a ++ b))) else none := rfl
theorem addF_ii (a b : Int) : addF (.int a) (.int b) = some (.fz (.int (a + b))) := rfl
theorem addS {a b : List Nat} (h : a.length + b.length ≤ 1000000) : addF (.str (S a)) (.str (S b)) = some (.fz (.str (S (a ++ b)))) := by
  show (if (S a).length + (S b).length ≤ sizeLine then some (Rv.fz (.str (S a ++ S b))) else none) = _
  rw [if_pos (by rw [S_len, S_len]; unfold sizeLine; omega), S_app]
theorem joinT_cons (sep x : List Nat) (xs : List (List Nat)) : joinT sep (x :: xs) = x ++ xs.flatMap (sep ++ ·) := by
  induction xs generalizing x with
  | nil => simp [joinT]
  | cons y ys ih => show x ++ sep ++ joinT sep (y :: ys) = _; rw [ih y]; simp
theorem joinT_len (sep : List Nat) (ls : List (List Nat)) : (ls.map List.length).sum + ls.length * sep.length ≤ (joinT sep ls).length + sep.length := by
  cases ls with
  | nil => simp [joinT]
  | cons x xs =>
    rw [joinT_cons]
    have : (xs.flatMap (sep ++ ·)).length = (xs.map List.length).sum + xs.length * sep.length := by
      induction xs with
      | nil => simp
      | cons y ys ih => simp only [List.flatMap_cons, List.length_append, ih, List.map_cons, List.sum_cons, List.length_cons, Nat.succ_mul]; omega
    simp only [List.length_append, this, List.map_cons, List.sum_cons, List.length_cons, Nat.succ_mul]; omega
theorem strsOf_S' : ∀ ls : List (List Nat), strsOf (ls.map fun l => .str (S l)) = some (ls.map S)
  | [] => rfl
  | l :: ls => by simp only [List.map_cons, strsOf, strsOf_S' ls]
theorem joinL_S {sep : List Nat} {ls : List (List Nat)} (h : (joinT sep ls).length ≤ 1000000) (hs : sep.length ≤ 1000) : joinL (S sep) (ls.map fun l => .str (S l)) = some (.fz (.str (S (joinT sep ls)))) := by
  unfold joinL
  rw [strsOf_S']
  have e : ((ls.map S).map (·.length)).sum = (ls.map List.length).sum := by rw [List.map_map]; exact congrArg List.sum (List.map_congr_left fun x _ => S_len x)
  have := joinT_len sep ls
  show (if ((ls.map S).map (·.length)).sum + (ls.map S).length * (S sep).length ≤ 16777216 then some (Rv.fz (.str (Txt.join (S sep) (ls.map S)))) else none) = _
  rw [if_pos (by rw [e, S_len, List.length_map]; omega), S_join]
/-- codes that a text may hold -/
def okT (l : List Nat) : Prop := ∀ c ∈ l, c < 0x110000
theorem eqOF_S {a b : List Nat} (ha : okT a) (hb : okT b) : eqOF (.str (S a)) (.str (S b)) = some (.fz (.bl (S a == S b))) := by
  have sa : ∀ l : List Nat, okT l → SeqAt.shaped (.str (S l)) = true := fun l h => by
    have : PyData.strOk (S l) = true := by
      unfold PyData.strOk S
      simp only [List.all_toArray, List.all_eq_true, decide_eq_true_eq]
      exact h
    show (PyData.strOk (S l) && decide (0 ≤ 64)) = true
    rw [this]; rfl
  have h : eqF (.str (S a)) (.str (S b)) = some (S a == S b) := by
    show (if SeqAt.shaped (.str (S a)) && SeqAt.shaped (.str (S b)) then some (PyData.eqv (.str (S a)) (.str (S b))) else none) = _
    rw [sa a ha, sa b hb]; rfl
  simp only [eqOF, h]; rfl
/-- where a reader stands: i signs read, r is left -/
structure At (l : List Nat) (i : Nat) (r : List Nat) : Prop where
  le : i ≤ l.length
  eq : l.drop i = r
theorem At.step {l w r : List Nat} {i : Nat} (h : At l i (w ++ r)) : At l (i + w.length) r := by
  have e := h.eq
  have hl := congrArg List.length e
  simp only [List.length_drop, List.length_append] at hl
  refine ⟨?_, ?_⟩
  · have := h.le; omega
  · rw [← List.drop_drop, e, List.drop_left]
theorem At.one {l r : List Nat} {i c : Nat} (h : At l i (c :: r)) : At l (i + 1) r := At.step (w := [c]) h
theorem At.lt {l r : List Nat} {i c : Nat} (h : At l i (c :: r)) : i < l.length := by
  have hl := congrArg List.length h.eq
  simp only [List.length_drop, List.length_cons] at hl; omega
theorem At.get {l r : List Nat} {i c : Nat} (h : At l i (c :: r)) : l[i]? = some c := by
  have := congrArg (fun z => z[0]?) h.eq
  simpa [List.getElem?_drop] using this
theorem At.end {l : List Nat} {i : Nat} (h : At l i []) : i = l.length := by
  have hl := congrArg List.length h.eq
  simp only [List.length_drop, List.length_nil] at hl; have := h.le; omega
theorem At.zero (l : List Nat) : At l 0 l := ⟨by omega, rfl⟩
theorem ix_S {l r : List Nat} {i c : Nat} (h : At l i (c :: r)) (hs : l.length ≤ 10000) : ixF (.str (S l)) (.int (i : Int)) = some (.fz (.str (S [c]))) := by
  have hz : (S l).length ≤ sizeLine := by rw [S_len]; unfold sizeLine; omega
  have ha : atI (S l).cps.toList (i : Int) = some c := by
    rw [S_cps]
    unfold atI ixN
    simp only [show ¬ ((i : Int) < 0) by omega, if_false, show ((i : Int) < (l.length : Int)) from by have := h.lt; omega, if_true, Int.toNat_natCast]
    simpa using h.get
  show (if (S l).length ≤ sizeLine then (atI (S l).cps.toList i).map fun s => Rv.fz (.str ⟨#[s]⟩) else none) = _
  rw [if_pos hz, ha]; rfl
theorem sl_S {l w r : List Nat} {i : Nat} (h : At l i (w ++ r)) (hs : l.length ≤ 10000) : slF (.str (S l)) (some (i : Int)) (some ((i + w.length : Nat) : Int)) = some (.fz (.str (S w))) := by
  have hz : (S l).length ≤ sizeLine := by rw [S_len]; unfold sizeLine; omega
  show (if (S l).length ≤ sizeLine then some (Rv.fz (.str (cutS (S l) (some (i : Int)) (some ((i + w.length : Nat) : Int))))) else none) = _
  rw [if_pos hz]
  unfold cutS
  have h2 := h.step.le
  rw [HT.sIx_nat, HT.sIx_nat, S_cps, S_len, Nat.min_eq_left h.le, Nat.min_eq_left h2, h.eq, Nat.add_sub_cancel_left, List.take_left]
  rfl
theorem lcM_inv {vs : List Nat} {g : TGf} {T : M Bool} {A : M Rv} {I : M (List D)} {e e1 : Ev} {ds : List D} (P : List D → Ev → Prop) (hI : I e = .ok ds e1) (hv : vs.all (slFz e1) = true) (hl : ds.length ≤ sizeLine) (h0 : P [] (wipeE e1 vs))
    (hs : ∀ d ∈ ds, ∀ acc e, P acc e → ∃ x e5, lcS g T A d e = some (x, e5) ∧ P (acc ++ [x]) (wipeE e5 vs)) : ∃ acc e2, lcM vs g T A I e = .ok (.own (.lst acc)) (restE e1 e2 vs) ∧ P acc e2 ∧ acc.length = ds.length := by
  obtain ⟨acc, e', h1, h2, h3⟩ := lcLoop_inv (vs := vs) (g := g) (T := T) (A := A) (fun k acc e => P acc e ∧ acc.length = k) ds 0 [] (wipeE e1 vs) ⟨h0, rfl⟩ (by simpa using hl) (fun j d acc e hj ⟨hp, hk⟩ => by
    obtain ⟨x, e5, q1, q2⟩ := hs d (List.mem_of_getElem? hj) acc e hp
    obtain ⟨a1, a2, r, a3, b1, b2, b3, b4⟩ := lcS_some q1
    exact ⟨a1, a2, r, a3, x, e5, b1, b2, b3, b4, q2, by simp [hk]⟩)
  exact ⟨acc, e', lcM_eq hI hv h1, h2, by simpa using h3⟩
theorem mulR (i : Int) {j : Int} (h : -(2 ^ 64) < j) (h2 : j < 2 ^ 64) : mulF (.int i) (.int j) = some (.fz (.int (i * j))) := by
  have : ((decide (-(2 ^ 64) < i) && decide (i < 2 ^ 64)) || (decide (-(2 ^ 64) < j) && decide (j < 2 ^ 64))) = true := by simp; omega
  show (if _ then some (Rv.fz (.int (i * j))) else none) = _
  rw [if_pos this]
theorem mulL {i : Int} (j : Int) (h : -(2 ^ 64) < i) (h2 : i < 2 ^ 64) : mulF (.int i) (.int j) = some (.fz (.int (i * j))) := by
  have : ((decide (-(2 ^ 64) < i) && decide (i < 2 ^ 64)) || (decide (-(2 ^ 64) < j) && decide (j < 2 ^ 64))) = true := by simp; omega
  show (if _ then some (Rv.fz (.int (i * j))) else none) = _
  rw [if_pos this]
theorem modI (i : Int) {j : Int} (h : 0 < j) : modF (.int i) (.int j) = some (.fz (.int (i % j))) := by
  have : decide (0 < j) = true := by simp [h]
  show (if _ then some (Rv.fz (.int (i % j))) else none) = _
  rw [if_pos this]
theorem fdivI (i : Int) {j : Int} (h : 0 < j) (h2 : j < 1073741824) : fdivF (.int i) (.int j) = some (.fz (.int (i / j))) := by
  have : (decide (0 < j) && decide (j < 1073741824)) = true := by simp [h, h2]
  show (if _ then some (Rv.fz (.int (i / j))) else none) = _
  rw [if_pos this]
theorem range_get {j m : Nat} {d : D} (h : (rangeD 0 m)[j]? = some d) : d = .int (j : Int) ∧ j < m := by
  unfold rangeD at h
  rw [List.getElem?_map] at h
  by_cases q : j < m
  · rw [List.getElem?_range q] at h
    simp at h
    exact ⟨h.symm, q⟩
  · rw [List.getElem?_eq_none (by simp; omega)] at h
    cases h
theorem range_len (m : Nat) : (rangeD 0 m).length = m := by simp [rangeD]
theorem inR_nat {m : Nat} (h : m ≤ 1000000) : inR (m : Int) = true := by
  unfold inR
  simp only [Bool.and_eq_true, decide_eq_true_eq]
  omega
theorem forM_idx {g : TGf} {b : M Fl} {I : M (List D)} {m : Nat} (P : Nat → Ev → Prop) (e : Ev) {e1 : Ev} (hI : I e = .ok (rangeD 0 m) e1) (h : P 0 e1)
    (hs : ∀ k e, k < m → P k e → ∃ e2, forS g b (.int (k : Int)) e = some e2 ∧ P (k + 1) e2) : ∃ e', forM g b I e = .ok .nx e' ∧ P m e' := by
  obtain ⟨e', h1, h2⟩ := forL_inv (g := g) (b := b) P (rangeD 0 m) 0 e1 h fun j d e hj hp => by
    obtain ⟨rfl, hl⟩ := range_get hj
    rw [Nat.zero_add] at hp ⊢
    obtain ⟨e2, q1, q2⟩ := hs j e hl hp
    obtain ⟨e3, q3, q4⟩ := forS_some q1
    exact ⟨e3, e2, q3, q4, q2⟩
  rw [range_len, Nat.zero_add] at h2
  exact ⟨e', by rw [forM_eq hI]; exact h1, h2⟩
theorem rng1_of {G : M (List Rv)} {e e' : Ev} {m : Nat} (h : m ≤ 1000000) (hG : G e = .ok [.fz (.int (m : Int))] e') : rng1M G e = .ok (rangeD 0 m) e' := by
  have h2 := inR_nat h
  have h3 : (m : Int).toNat = m := Int.toNat_natCast m
  generalize (m : Int) = i at *
  simp only [rng1M, M.bind, hG, viewAll, view, h2, if_true, h3]
end Sc

set_option Elab.async false
set_option linter.all false
set_option autoImplicit false
set_option maxRecDepth 100000
namespace Sc
open PySem L2
def azL : List Nat := [97, 98, 99, 100, 101, 102, 103, 104, 105, 106, 107, 108, 109, 110, 111, 112, 113, 114, 115, 116, 117, 118, 119, 120, 121, 122]
def digL : List Nat := [48, 49, 50, 51, 52, 53, 54, 55, 56, 57]
def numL : List Nat := [110, 117, 109]
theorem se_gstr2 {X : Cx} {B : Bs} {W : WX} {x z z2 : Str} {pos : Pos} (h : ∃ t, X.mg x = some (.str z t)) (hz : z = z2) (hg : Gl X x) (hd : (x == ("__debug__" : Str)) = false := by decide) : SE X B W (.Name x pos) (constM (.str z2)) := by
  subst hz; exact se_gstr h hg hd
/-! ### sizes -/
/-- a side condition -/
structure Sz (p : Prop) : Prop where
  h : p
theorem ifLt {α : Type} {n : Nat} {a b : α} (h : Sz (n < 16000000)) : (if n < sizeLine then a else b) = a := if_pos (by have := h.h; unfold sizeLine; omega)
theorem ifLe {α : Type} {n : Nat} {a b : α} (h : Sz (n ≤ 16000000)) : (if n ≤ sizeLine then a else b) = a := if_pos (by have := h.h; unfold sizeLine; omega)
/-! ### what the operators answer -/
theorem eqO_S (a b : List Nat) : eqOF2 (.str (S a)) (.str (S b)) = some (.fz (.bl (decide (a = b)))) := by
  show some (Rv.fz (.bl (decide (S a = S b)))) = _
  rw [show decide (S a = S b) = decide (a = b) from decide_eq_decide.mpr S_inj]
theorem neO_S (a b : List Nat) : neOF2 (.str (S a)) (.str (S b)) = some (.fz (.bl (!decide (a = b)))) := by
  show some (Rv.fz (.bl (!decide (S a = S b)))) = _
  rw [show decide (S a = S b) = decide (a = b) from decide_eq_decide.mpr S_inj]
theorem eqO_i (a b : Int) : eqOF2 (.int a) (.int b) = some (.fz (.bl (decide (a = b)))) := rfl
theorem neO_i (a b : Int) : neOF2 (.int a) (.int b) = some (.fz (.bl (!decide (a = b)))) := rfl
theorem eqO_b (a b : Bool) : eqOF2 (.bl a) (.bl b) = some (.fz (.bl (decide (a = b)))) := rfl
theorem mul2_i (a b : Int) : mulF2 (.int a) (.int b) = mulF (.int a) (.int b) := rfl
theorem mul2_l {ds : List D} {k : Int} (h : 0 ≤ k) (h1 : k < 1000) (h2 : ds.length < 10000) : mulF2 (.lst ds) (.int k) = some (.own (.lst (List.replicate k.toNat ds).flatten)) := by
  show (if _ then some (Rv.own (.lst (List.replicate k.toNat ds).flatten)) else none) = _
  rw [if_pos]
  refine ⟨by omega, by omega, ?_⟩
  have := Nat.mul_le_mul (show ds.length ≤ 10000 by omega) (show k.toNat ≤ 1000 by omega)
  unfold sizeLine; omega
theorem fdiv2 (i : Int) {j : Int} (h : 0 < j) (h2 : j < 2 ^ 200) : fdivF2 (.int i) (.int j) = some (.fz (.int (i / j))) := by
  have h3 : j.natAbs.log2 < 9000 := by
    have : j.natAbs < 2 ^ 200 := by omega
    have := (Nat.log2_lt (n := j.natAbs) (k := 200) (by omega)).mpr this
    omega
  have : (decide (0 < j) && decide (j.natAbs.log2 < 9000)) = true := by simp [h, h3]
  show (if _ then some (Rv.fz (.int (i / j))) else none) = _
  rw [if_pos this]
theorem addSS (a b : List Nat) (h0 : Sz (a.length + b.length ≤ 16000000)) : addF (.str (S a)) (.str (S b)) = some (.fz (.str (S (a ++ b)))) := by
  have h := h0.h
  show (if (S a).length + (S b).length ≤ sizeLine then some (Rv.fz (.str (S a ++ S b))) else none) = _
  rw [if_pos (by rw [S_len, S_len]; unfold sizeLine; omega), S_app]
theorem lenS (a : List Nat) (h : a.length ≤ 16000000) : lenF [.str (S a)] = some (.fz (.int a.length)) := by
  show (if (S a).length ≤ sizeLine then some (Rv.fz (.int ((S a).length : Int))) else none) = _
  rw [if_pos (by rw [S_len]; unfold sizeLine; omega), S_len]
theorem list2_l (ds : List D) : listF2 [.lst ds] = some (.own (.lst ds)) := rfl
theorem list2_t (ds : List D) : listF2 [.tup ds] = some (.own (.lst ds)) := rfl
theorem list2_d (ks : List Str) (ds : List D) : listF2 [.dic ks ds] = some (.own (.lst (ks.map D.str))) := rfl
theorem isi_int (i : Int) : tyName (.int i) = some "int" := rfl
theorem up {k n : Nat} (h : k ≤ n) : ∃ m, n = m + k := ⟨n - k, by omega⟩
/-- a level above none -/
theorem up1 {k n : Nat} (h : k + 1 ≤ n) : ∃ m, n = m + 1 ∧ k ≤ m := ⟨n - 1, by omega, by omega⟩
/-! ### loops that leave early -/
/-- the first item of which the body returns -/
theorem forL_ret {α : Type} {g : TGf} {b : M Fl} (f : α → D) (e : Ev) (r : Rt) (e' : Ev) : ∀ (pre : List α) (x : α) (post : List α),
    (∀ y ∈ pre, ∃ e1, g (f y) e = some e1 ∧ b e1 = .ok .nx e) → (∃ e1, g (f x) e = some e1 ∧ b e1 = .ok (.rt r) e') → forL g b ((pre ++ x :: post).map f) e = .ok (.rt r) e'
  | [], x, post, _, ⟨e1, h1, h2⟩ => by simp only [List.nil_append, List.map_cons, forL, h1, h2]
  | y :: pre, x, post, hp, hx => by
    obtain ⟨e1, h1, h2⟩ := hp y (by simp)
    simp only [List.cons_append, List.map_cons, forL, h1, h2]
    exact forL_ret f e r e' pre x post (fun z hz => hp z (by simp [hz])) hx
/-- a loop whose body leaves all as it was -/
theorem forL_same {α : Type} {g : TGf} {b : M Fl} (f : α → D) (e : Ev) : ∀ (xs : List α), (∀ y ∈ xs, ∃ e1, g (f y) e = some e1 ∧ b e1 = .ok .nx e) → forL g b (xs.map f) e = .ok .nx e
  | [], _ => rfl
  | y :: pre, hp => by
    obtain ⟨e1, h1, h2⟩ := hp y (by simp)
    simp only [List.map_cons, forL, h1, h2]
    exact forL_same f e pre fun z hz => hp z (by simp [hz])
/-- one turn, whatever way it ends -/
def forT (g : TGf) (b : M Fl) (d : D) (e : Ev) : Rs Fl := match g d e with
  | some e1 => b e1
  | none => .stuck
theorem forL_cons {g : TGf} {b : M Fl} {d : D} {ds : List D} {e e2 : Ev} (h : forT g b d e = .ok .nx e2) : forL g b (d :: ds) e = forL g b ds e2 := by
  unfold forT at h
  split at h
  · rename_i e1 h1; simp only [forL, h1, h]
  · cases h
theorem forL_rt {g : TGf} {b : M Fl} {d : D} {ds : List D} {e e2 : Ev} {r : Rt} (h : forT g b d e = .ok (.rt r) e2) : forL g b (d :: ds) e = .ok (.rt r) e2 := by
  unfold forT at h
  split at h
  · rename_i e1 h1; simp only [forL, h1, h]
  · cases h
theorem forL_exc {g : TGf} {b : M Fl} {d : D} {ds : List D} {e e2 : Ev} {x : Xc} (h : forT g b d e = .exc x e2) : forL g b (d :: ds) e = .exc x e2 := by
  unfold forT at h
  split at h
  · rename_i e1 h1; simp only [forL, h1, h]
  · cases h
theorem forL_nil {g : TGf} {b : M Fl} {e : Ev} : forL g b [] e = .ok .nx e := rfl
/-- a fold: the environment is told by a state -/
theorem forM_fold {α β : Type} {g : TGf} {b : M Fl} {I : M (List D)} (f : α → D) (env : β → Ev) (step : β → α → β) (Inv : List α → β → Prop) (xs : List α) (s : β) {e : Ev} (hI : I e = .ok (xs.map f) (env s)) (h0 : Inv [] s)
    (hs : ∀ p x q s, xs = p ++ x :: q → Inv p s → forT g b (f x) (env s) = .ok .nx (env (step s x)) ∧ Inv (p ++ [x]) (step s x)) : forM g b I e = .ok .nx (env (xs.foldl step s)) ∧ Inv xs (xs.foldl step s) := by
  have go : ∀ (post pre : List α) (s : β), xs = pre ++ post → Inv pre s → forL g b (post.map f) (env s) = .ok .nx (env (post.foldl step s)) ∧ Inv xs (post.foldl step s) := by
    intro post
    induction post with
    | nil => intro pre s hx hp; rw [List.append_nil] at hx; subst hx; exact ⟨rfl, hp⟩
    | cons x post ih =>
      intro pre s hx hp
      obtain ⟨h1, h2⟩ := hs pre x post s hx hp
      obtain ⟨i1, i2⟩ := ih (pre ++ [x]) (step s x) (by simp [hx]) h2
      exact ⟨by rw [List.map_cons, forL_cons h1]; exact i1, i2⟩
  obtain ⟨g1, g2⟩ := go xs [] s rfl h0
  exact ⟨by rw [forM_eq hI]; exact g1, g2⟩
/-! ### items -/
theorem atI_nat {α : Type} (l : List α) (k : Nat) : atI l (k : Int) = l[k]? := by
  unfold atI ixN
  by_cases h : k < l.length
  · simp only [show ¬ ((k : Int) < 0) by omega, if_false, show ((k : Int) < (l.length : Int)) by omega, if_true, Int.toNat_natCast]; rfl
  · simp only [show ¬ ((k : Int) < 0) by omega, if_false, show ¬ ((k : Int) < (l.length : Int)) by omega]
    rw [List.getElem?_eq_none (by omega)]; rfl
theorem at0 {α : Type} (a : α) (l : List α) : atI (a :: l) 0 = some a := by have := atI_nat (a :: l) 0; simpa using this
theorem at1 {α : Type} (a b : α) (l : List α) : atI (a :: b :: l) 1 = some b := by have := atI_nat (a :: b :: l) 1; simpa using this
theorem at2 {α : Type} (a b c : α) (l : List α) : atI (a :: b :: c :: l) 2 = some c := by have := atI_nat (a :: b :: c :: l) 2; simpa using this
theorem at3 {α : Type} (a b c d : α) (l : List α) : atI (a :: b :: c :: d :: l) 3 = some d := by have := atI_nat (a :: b :: c :: d :: l) 3; simpa using this
theorem ixk {n k : Nat} (h : k < n) : ixN n (k : Int) = some k := by
  unfold ixN
  simp only [show ((k : Int) < (n : Int)) by omega, if_true, Int.toNat_natCast]
  rw [if_pos (by omega)]
theorem ix0 {n : Nat} : ixN (n + 1) 0 = some 0 := by have := ixk (n := n + 1) (k := 0) (by omega); simpa using this
theorem ix1 {n : Nat} : ixN (n + 1 + 1) 1 = some 1 := by have := ixk (n := n + 1 + 1) (k := 1) (by omega); simpa using this
theorem ix2 {n : Nat} : ixN (n + 1 + 1 + 1) 2 = some 2 := by have := ixk (n := n + 1 + 1 + 1) (k := 2) (by omega); simpa using this
theorem ix3 {n : Nat} : ixN (n + 1 + 1 + 1 + 1) 3 = some 3 := by have := ixk (n := n + 1 + 1 + 1 + 1) (k := 3) (by omega); simpa using this
theorem mod2 (i : Int) {j : Int} (h : 0 < j) : modF (.int i) (.int j) = some (.fz (.int (i % j))) := modI i h
theorem mul2R (i : Int) {j : Int} (h : -(2 ^ 64) < j) (h2 : j < 2 ^ 64) : mulF2 (.int i) (.int j) = some (.fz (.int (i * j))) := mulR i h h2
theorem mul2L {i : Int} (j : Int) (h : -(2 ^ 64) < i) (h2 : i < 2 ^ 64) : mulF2 (.int i) (.int j) = some (.fz (.int (i * j))) := mulL j h h2
theorem modZ {i j : Int} (h : Sz (0 < j)) : modF (.int i) (.int j) = some (.fz (.int (i % j))) := modI i h.h
theorem fdivZ {i j : Int} (h : Sz (0 < j ∧ j < 2 ^ 200)) : fdivF2 (.int i) (.int j) = some (.fz (.int (i / j))) := fdiv2 i h.h.1 h.h.2
theorem mulZR {i j : Int} (h : Sz (-(2 ^ 64) < j ∧ j < 2 ^ 64)) : mulF2 (.int i) (.int j) = some (.fz (.int (i * j))) := mulR i h.h.1 h.h.2
theorem mulZL {i j : Int} (h : Sz (-(2 ^ 64) < i ∧ i < 2 ^ 64)) : mulF2 (.int i) (.int j) = some (.fz (.int (i * j))) := mulL j h.h.1 h.h.2
theorem mulZ_l {ds : List D} {k : Int} (h : Sz (0 ≤ k ∧ k < 1000 ∧ ds.length < 10000)) : mulF2 (.lst ds) (.int k) = some (.own (.lst (List.replicate k.toNat ds).flatten)) := mul2_l h.h.1 h.h.2.1 h.h.2.2
/-! ### the reader's object -/
theorem ne_ss : (("signs" : Str) = "spot") = False := eq_false (by decide +kernel)
theorem ne_ps : (("spot" : Str) = "signs") = False := eq_false (by decide +kernel)
theorem kn_1 : ([("signs" : Str), "spot"].contains "is_through") = false := by decide +kernel
theorem kn_2 : ([("signs" : Str), "spot"].contains "meets") = false := by decide +kernel
theorem kn_3 : ([("signs" : Str), "spot"].contains "passes") = false := by decide +kernel
theorem kn_4 : ([("signs" : Str), "spot"].contains "must_pass") = false := by decide +kernel
theorem kn_5 : ([("signs" : Str), "spot"].contains "stretch_of") = false := by decide +kernel
theorem kn_6 : ([("signs" : Str), "spot"].contains "ends_well") = false := by decide +kernel
theorem kn_7 : ([("signs" : Str), "spot"].contains "number_next") = false := by decide +kernel
theorem mk_S (c : Nat) : (⟨#[c]⟩ : Str) = S [c] := rfl
theorem inF_sign {c : Nat} {l : List Nat} : inF (.str (S [c])) (.str (S l)) = some (decide (c ∈ l)) := by
  show (match (S [c]).cps.toList with | [s] => some (decide (s ∈ (S l).cps.toList)) | _ => none) = _
  rw [S_cps, S_cps]
def ps (l r : List Nat) : Nat := l.length - r.length
/-- the text l of which r is yet to be read -/
def stR (l r : List Nat) : O := .obj "Strip" ["signs", "spot"] [.str (S l), .int (ps l r : Int)]
theorem at_of {l r : List Nat} (h : r <:+ l) : At l (ps l r) r := by
  obtain ⟨t, rfl⟩ := h
  unfold ps; refine ⟨by simp, ?_⟩
  simp
theorem suf_drop {l r : List Nat} (h : r <:+ l) (k : Nat) : r.drop k <:+ l := (List.drop_suffix k r).trans h
theorem suf_cons {l r : List Nat} {c : Nat} (h : c :: r <:+ l) : r <:+ l := (List.suffix_cons c r).trans h
theorem suf_app {l a r : List Nat} (h : a ++ r <:+ l) : r <:+ l := (List.suffix_append a r).trans h
theorem ps_self (l : List Nat) : ps l l = 0 := by unfold ps; omega
theorem ps_nil {l : List Nat} : ps l [] = l.length := by unfold ps; simp
theorem ps_end {l r : List Nat} (h : r <:+ l) : (ps l r : Int) = (l.length : Int) ↔ r = [] := by
  have := h.length_le
  unfold ps
  rw [← List.length_eq_zero_iff]; omega
theorem ps_drop {l r w : List Nat} (h : r <:+ l) (hp : w.isPrefixOf r = true) : (ps l r : Int) + (w.length : Int) = (ps l (r.drop w.length) : Int) := by
  have hl := (List.isPrefixOf_iff_prefix.mp hp).length_le
  have hr := h.length_le
  unfold ps
  rw [List.length_drop]; omega
theorem ps_cons {l r : List Nat} {c : Nat} (h : c :: r <:+ l) : (ps l (c :: r) : Int) + 1 = (ps l r : Int) := by
  have hr := h.length_le
  unfold ps
  simp only [List.length_cons] at *; omega
theorem ps_eq {l r q : List Nat} (h : r <:+ l) (g : q <:+ l) : (ps l r : Int) = (ps l q : Int) ↔ r.length = q.length := by
  have := h.length_le
  have := g.length_le
  unfold ps; omega
theorem at_S {l r : List Nat} {c : Nat} (h : c :: r <:+ l) : atI l (ps l (c :: r) : Int) = some c := by
  rw [atI_nat]; exact (at_of h).get
theorem int_i (i : Int) : intF [.int i] = some (.fz (.int i)) := rfl
theorem int_b (k : Bool) : intF [.bl k] = some (.fz (.int (if k then 1 else 0))) := rfl
theorem add_md : addF (.str (S [45])) (.str (S digL)) = some (.fz (.str (S (45 :: digL)))) := addSS _ _ ⟨by decide⟩
theorem add_dmd : addF (.str (S [46, 45])) (.str (S digL)) = some (.fz (.str (S (46 :: 45 :: digL)))) := addSS _ _ ⟨by decide⟩
/-! ### comprehensions, a turn with its wiping -/
def lcW (vs : List Nat) (g : TGf) (T : M Bool) (A : M Rv) (d : D) (e : Ev) : Option (D × Ev) := match lcS g T A d e with
  | some (x, e5) => some (x, wipeE e5 vs)
  | none => none
theorem lcW_some {vs : List Nat} {g : TGf} {T : M Bool} {A : M Rv} {d x : D} {e e6 : Ev} (h : lcW vs g T A d e = some (x, e6)) : ∃ e5, lcS g T A d e = some (x, e5) ∧ wipeE e5 vs = e6 := by
  unfold lcW at h
  split at h
  · rename_i y e5 q
    simp only [Option.some.injEq, Prod.mk.injEq] at h
    exact ⟨e5, by rw [q, h.1], h.2⟩
  · cases h
theorem lcM_mapW {α : Type} {vs : List Nat} {g : TGf} {T : M Bool} {A : M Rv} {I : M (List D)} (f h : α → D) (xs : List α) {e e1 e2 : Ev} (hI : I e = .ok (xs.map f) e1) (hl : xs.length ≤ 16000000)
    (hs : ∀ x ∈ xs, lcW vs g T A (f x) (wipeE e1 vs) = some (h x, wipeE e1 vs)) (hv : vs.all (slFz e1) = true := by rfl) (he : restE e1 (wipeE e1 vs) vs = e2 := by rfl) : lcM vs g T A I e = .ok (.own (.lst (xs.map h))) e2 :=
  lcM_map f h xs hI hv (by unfold sizeLine; omega) (fun x hx => lcW_some (hs x hx)) he
theorem lcM_invW {vs : List Nat} {g : TGf} {T : M Bool} {A : M Rv} {I : M (List D)} {e e1 : Ev} {ds : List D} (P : List D → Ev → Prop) (hI : I e = .ok ds e1) (hl : ds.length ≤ 16000000) (h0 : P [] (wipeE e1 vs))
    (hs : ∀ d ∈ ds, ∀ acc e, P acc e → ∃ x e5, lcW vs g T A d e = some (x, e5) ∧ P (acc ++ [x]) e5) (hv : vs.all (slFz e1) = true := by rfl) : ∃ acc e2, lcM vs g T A I e = .ok (.own (.lst acc)) (restE e1 e2 vs) ∧ P acc e2 ∧ acc.length = ds.length :=
  lcM_inv P hI hv (by unfold sizeLine; omega) h0 fun d hd acc e hp => by
    obtain ⟨x, e6, h1, h2⟩ := hs d hd acc e hp
    obtain ⟨e5, h3, h4⟩ := lcW_some h1
    exact ⟨x, e5, h3, by rw [h4]; exact h2⟩
/-- a turn of a comprehension with a test -/
def lcF (vs : List Nat) (g : TGf) (T : M Bool) (A : M Rv) (d : D) (e : Ev) : Option (Option D × Ev) := match g d e with
  | some e1 => match T e1 with
    | .ok true e2 => match A e2 with
      | .ok r e3 => match freeze r e3 with
        | some (x, e4) => some (some x, wipeE e4 vs)
        | none => none
      | _ => none
    | .ok false e2 => some (none, wipeE e2 vs)
    | _ => none
  | none => none
theorem lcM_flt {α : Type} {vs : List Nat} {g : TGf} {T : M Bool} {A : M Rv} {I : M (List D)} (f : α → D) (h : α → Option D) (xs : List α) {e e1 e2 : Ev} (hI : I e = .ok (xs.map f) e1) (hl : xs.length ≤ 16000000)
    (hs : ∀ x ∈ xs, lcF vs g T A (f x) (wipeE e1 vs) = some (h x, wipeE e1 vs)) (hv : vs.all (slFz e1) = true := by rfl) (he : restE e1 (wipeE e1 vs) vs = e2 := by rfl) : lcM vs g T A I e = .ok (.own (.lst (xs.filterMap h))) e2 := by
  have go : ∀ (xs : List α) (acc : List D), acc.length + xs.length ≤ 16000000 → (∀ x ∈ xs, lcF vs g T A (f x) (wipeE e1 vs) = some (h x, wipeE e1 vs)) → lcLoop vs g T A (xs.map f) acc (wipeE e1 vs) = .ok (acc ++ xs.filterMap h) (wipeE e1 vs) := by
    intro xs
    induction xs with
    | nil => intro acc _ _; simp [lcLoop, M.pure]
    | cons x xs ih =>
      intro acc hl hs
      have h0 := hs x (by simp)
      simp only [List.length_cons] at hl
      have hl' : acc.length < sizeLine := by unfold sizeLine; omega
      unfold lcF at h0
      simp only [List.map_cons, lcLoop]
      cases q1 : g (f x) (wipeE e1 vs) with
      | none => simp [q1] at h0
      | some e3 =>
        simp only [q1] at h0 ⊢
        cases q2 : T e3 with
        | ok b e4 =>
          simp only [q2] at h0 ⊢
          cases b with
          | true =>
            simp only at h0 ⊢
            cases q3 : A e4 with
            | ok r e5 =>
              simp only [q3] at h0 ⊢
              cases q4 : freeze r e5 with
              | none => simp [q4] at h0
              | some ye =>
                obtain ⟨y, e6⟩ := ye
                simp only [q4, Option.some.injEq, Prod.mk.injEq] at h0 ⊢
                rw [if_pos hl', h0.2, ih (acc ++ [y]) (by simp; omega) fun z hz => hs z (by simp [hz])]
                simp [← h0.1]
            | _ => simp [q3] at h0
          | false =>
            simp only [Option.some.injEq, Prod.mk.injEq] at h0 ⊢
            rw [h0.2, ih acc (by omega) fun z hz => hs z (by simp [hz])]
            simp [← h0.1]
        | _ => simp [q2] at h0
  rw [lcM_eq hI hv (by simpa using go xs [] (by simpa using hl) hs), he]
theorem sl_tail (x : D) (ds : List D) : slF (.tup (x :: ds)) (some 1) none = some (.fz (.tup ds)) := by
  show some (Rv.fz (.tup (cutG (x :: ds) (some 1) none))) = _
  unfold cutG
  rw [show HT.sIx (x :: ds).length 0 (some 1) = 1 by
    have := HT.sIx_nat (x :: ds).length 0 1
    rw [show ((1 : Nat) : Int) = 1 from rfl] at this
    rw [this]; simp]
  have e : HT.sIx (x :: ds).length (x :: ds).length none = (x :: ds).length := rfl
  rw [e]
  simp
/-- how such a loop ends -/
def forR {α : Type} (e : Ev) (res : α → Rt) (e' : α → Ev) : Option α → Rs Fl
  | some x => .ok (.rt (res x)) (e' x)
  | none => .ok .nx e
/-- the first item that is met -/
theorem forL_find {α : Type} {g : TGf} {b : M Fl} (f : α → D) (p : α → Bool) (res : α → Rt) (e : Ev) (e' : α → Ev) : ∀ (xs : List α), (∀ x ∈ xs, p x = false → forT g b (f x) e = .ok .nx e) → (∀ x ∈ xs, p x = true → forT g b (f x) e = .ok (.rt (res x)) (e' x)) →
    forL g b (xs.map f) e = forR e res e' (xs.find? p)
  | [], _, _ => rfl
  | x :: xs, h1, h2 => by
    rw [List.find?_cons]
    cases q : p x with
    | true => rw [List.map_cons, forL_rt (h2 x (by simp) q)]; rfl
    | false => rw [List.map_cons, forL_cons (h1 x (by simp) q)]; exact forL_find f p res e e' xs (fun y hy => h1 y (by simp [hy])) fun y hy => h2 y (by simp [hy])
theorem forM_find {α : Type} {g : TGf} {b : M Fl} {I : M (List D)} {e0 : Ev} (f : α → D) (p : α → Bool) (res : α → Rt) (e : Ev) (e' : α → Ev) (xs : List α) (hI : I e0 = .ok (xs.map f) e) (h1 : ∀ x ∈ xs, p x = false → forT g b (f x) e = .ok .nx e) (h2 : ∀ x ∈ xs, p x = true → forT g b (f x) e = .ok (.rt (res x)) (e' x)) :
    forM g b I e0 = forR e res e' (xs.find? p) := (forM_eq hI).trans (forL_find f p res e e' xs h1 h2)
/-- a loop that puts an item each -/
theorem forM_push {α : Type} {g : TGf} {b : M Fl} {I : M (List D)} {e0 : Ev} (f h : α → D) (env : List D → Ev) (acc : List D) (xs : List α) (hI : I e0 = .ok (xs.map f) (env acc)) (hl : acc.length + xs.length ≤ 16000000)
    (hs : ∀ x ∈ xs, ∀ ds, ds.length < 16000000 → forT g b (f x) (env ds) = .ok .nx (env (ds ++ [h x]))) : forM g b I e0 = .ok .nx (env (acc ++ xs.map h)) := by
  rw [forM_eq hI]
  clear hI
  induction xs generalizing acc with
  | nil => simp [forL, M.pure]
  | cons x xs ih =>
    simp only [List.length_cons] at hl
    rw [List.map_cons, forL_cons (hs x (by simp) acc (by omega)), ih (acc ++ [h x]) (by simp; omega) fun y hy => hs y (by simp [hy])]
    simp
theorem range0 (m : Nat) : rangeD 0 m = (List.range m).map fun k : Nat => D.int (k : Int) := by
  unfold rangeD
  exact List.map_congr_left fun k _ => by rw [Int.zero_add]
/-- an item of a list by a place that is known -/
theorem atN {α : Type} {l : List α} {k : Nat} {a : α} (h : l[k]? = some a) : atI l (k : Int) = some a := (atI_nat l k).trans h
theorem azL_get {d : Nat} (h : d < 26) : azL[d]? = some (97 + d) := by
  have : ∀ d : Fin 26, azL[d.val]? = some (97 + d.val) := by decide
  exact this ⟨d, h⟩
theorem az_at {d : Nat} (h : d < 26) : atI azL (d : Int) = some (97 + d) := atN (azL_get h)
theorem sl_lo (l : List Nat) (k : Nat) (h : l.length ≤ 16000000) : slF (.str (S l)) none (some (k : Int)) = some (.fz (.str (S (l.take k)))) := by
  show (if (S l).length ≤ sizeLine then some (Rv.fz (.str (cutS (S l) none (some (k : Int))))) else none) = _
  rw [if_pos (by rw [S_len]; unfold sizeLine; omega)]
  unfold cutS
  rw [HT.sIx_nat, S_cps, S_len]
  have e : HT.sIx l.length 0 none = 0 := rfl
  rw [e, List.drop_zero, Nat.sub_zero]
  have e2 : l.take (min k l.length) = l.take k := by rw [← List.take_eq_take_min]
  rw [e2]; rfl
theorem sl_hi (l : List Nat) (k : Nat) (h : l.length ≤ 16000000) : slF (.str (S l)) (some (k : Int)) none = some (.fz (.str (S (l.drop k)))) := by
  show (if (S l).length ≤ sizeLine then some (Rv.fz (.str (cutS (S l) (some (k : Int)) none))) else none) = _
  rw [if_pos (by rw [S_len]; unfold sizeLine; omega)]
  unfold cutS
  rw [HT.sIx_nat, S_cps, S_len]
  have e : HT.sIx l.length l.length none = l.length := rfl
  rw [e]
  have e2 : (l.drop (min k l.length)).take (l.length - min k l.length) = l.drop k := by
    rw [List.take_of_length_le (by simp)]
    by_cases q : k ≤ l.length
    · rw [Nat.min_eq_left q]
    · rw [Nat.min_eq_right (by omega), List.drop_length, List.drop_eq_nil_of_le (by omega)]
  rw [e2]; rfl
theorem powI {j : Int} (h : 0 ≤ j) (h2 : j ≤ 1000) : powF (.int 10) (.int j) = some (.fz (.int (10 ^ j.toNat))) := by
  have : (decide (0 ≤ j) && (decide (j ≤ 1000000) && decide ((10 : Int).natAbs < 2 ^ 64))) = true := by simp; omega
  show (if _ then some (Rv.fz (.int (10 ^ j.toNat))) else none) = _
  rw [if_pos this]
theorem pow18 : powF (.int 10) (.int 18) = some (.fz (.int 1000000000000000000)) := powI (by decide) (by decide)
theorem pow60 : powF (.int 10) (.int 60) = some (.fz (.int (10 ^ 60))) := powI (by decide) (by decide)
theorem pow30 : powF (.int 10) (.int 30) = some (.fz (.int (10 ^ 30))) := powI (by decide) (by decide)
theorem pow12 : powF (.int 10) (.int 12) = some (.fz (.int 1000000000000)) := powI (by decide) (by decide)
theorem pow10 : powF (.int 10) (.int 10) = some (.fz (.int 10000000000)) := powI (by decide) (by decide)
theorem maxI (i j : Int) : maxF [.int i, .int j] = some (.fz (.int (if j > i then j else i))) := rfl
theorem minI (i j : Int) : minF [.int i, .int j] = some (.fz (.int (if j < i then j else i))) := rfl
theorem len_l (ds : List D) : lenF [.lst ds] = some (.fz (.int ds.length)) := rfl
theorem len_t (ds : List D) : lenF [.tup ds] = some (.fz (.int ds.length)) := rfl
theorem len_d (ks : List Str) (ds : List D) : lenF [.dic ks ds] = some (.fz (.int ks.length)) := rfl
theorem len_scr (ns : List Int) : lenF [.scr ns] = some (.fz (.int ns.length)) := rfl
theorem len_s {a : List Nat} (h : Sz (a.length ≤ 16000000)) : lenF [.str (S a)] = some (.fz (.int a.length)) := lenS a h.h
/-! ### membership -/
theorem mem_S {k : List Nat} {ls : List (List Nat)} : S k ∈ ls.map S ↔ k ∈ ls := by
  constructor
  · intro h; obtain ⟨a, ha, e⟩ := List.mem_map.mp h; rw [← S_inj.mp e]; exact ha
  · intro h; exact List.mem_map.mpr ⟨k, h, rfl⟩
theorem in_dS (k : List Nat) (ls : List (List Nat)) (ds : List D) : inF (.str (S k)) (.dic (ls.map S) ds) = some (decide (k ∈ ls)) := by
  show some (decide (S k ∈ ls.map S)) = _
  rw [decide_eq_decide.mpr mem_S]
theorem flat_S (ls : List (List Nat)) : (ls.map fun l => D.str (S l)).all flatD = true := by simp [flatD]
theorem any_S (k : List Nat) (ls : List (List Nat)) : ((ls.map fun l => D.str (S l)).any fun z => eqD1 z (.str (S k))) = decide (k ∈ ls) := by
  rw [List.any_map]
  induction ls with
  | nil => rfl
  | cons a ls ih =>
    have e : ((fun z => eqD1 z (D.str (S k))) ∘ fun l => D.str (S l)) a = decide (k = a) := by
      show (S a == S k) = _
      rw [Bool.eq_iff_iff]
      simp only [beq_iff_eq, decide_eq_true_eq]
      rw [S_inj]; exact eq_comm
    rw [List.any_cons, e, ih]
    simp only [List.mem_cons, Bool.decide_or]
theorem in_lS (k : List Nat) (ls : List (List Nat)) : inF (.str (S k)) (.lst (ls.map fun l => D.str (S l))) = some (decide (k ∈ ls)) := by
  unfold inF
  simp only [flat_S, any_S, show flatD (.str (S k)) = true from rfl, Bool.and_true, if_true]
theorem in_tS (k : List Nat) (ls : List (List Nat)) : inF (.str (S k)) (.tup (ls.map fun l => D.str (S l))) = some (decide (k ∈ ls)) := by
  unfold inF
  simp only [flat_S, any_S, show flatD (.str (S k)) = true from rfl, Bool.and_true, if_true]
theorem putDk_new {f : Str} {d : D} : ∀ {ks : List Str} {ds : List D}, f ∉ ks → ks.length = ds.length → putDk f d ks ds = some (ks ++ [f], ds ++ [d])
  | [], [], _, _ => rfl
  | k :: ks, x :: ds, h, hl => by
    have h1 : ¬ k = f := fun z => h (by simp [z])
    have ih := putDk_new (f := f) (d := d) (ks := ks) (ds := ds) (fun z => h (by simp [z])) (by simpa using hl)
    simp only [putDk, if_neg h1, ih, List.cons_append]
theorem ixL (ds : List D) (i : Int) : ixF (.lst ds) (.int i) = (atI ds i).map .fz := rfl
theorem ixT (ds : List D) (i : Int) : ixF (.tup ds) (.int i) = (atI ds i).map .fz := rfl
theorem ixSc (ns : List Int) (i : Int) : ixF (.scr ns) (.int i) = (atI ns i).map fun n => .fz (.int n) := rfl
theorem ixSS {l : List Nat} {i : Int} (h : Sz (l.length ≤ 16000000)) : ixF (.str (S l)) (.int i) = (atI l i).map fun s => .fz (.str (S [s])) := by
  show (if (S l).length ≤ sizeLine then (atI (S l).cps.toList i).map fun s => Rv.fz (.str ⟨#[s]⟩) else none) = _
  rw [if_pos (by rw [S_len]; have := h.h; unfold sizeLine; omega), S_cps]; rfl
theorem ixAz (i : Int) : ixF (.str (S azL)) (.int i) = (atI azL i).map fun s => .fz (.str (S [s])) := ixSS ⟨by decide⟩
end Sc

set_option Elab.async false
set_option linter.all false
set_option autoImplicit false
set_option maxRecDepth 100000
namespace Sc
open PySem L2
/-! ### numbers as texts -/
def itL (i : Int) : List Nat := (Str.ofString (toString i)).cps.toList
theorem S_it (i : Int) : Str.ofString (toString i) = S (itL i) := (S_of _).symm
theorem itL_nat (n : Nat) : itL (n : Int) = TL.numL n := TL.tl_num n
theorem itL_neg (n : Nat) : itL (-((n + 1 : Nat) : Int)) = 45 :: TL.numL (n + 1) := by
  have e : toString (-((n + 1 : Nat) : Int)) = "-" ++ toString (((n + 1 : Nat)) : Int) := rfl
  have h := TL.tl_num (n + 1)
  unfold TL.tl at h
  unfold itL
  rw [e, Str.ofString_eq_toList]
  rw [Str.ofString_eq_toList] at h
  simp only [String.toList_append, List.map_append, List.toList_toArray] at h ⊢
  rw [h]; rfl
theorem itL_pos {i : Int} (h : 0 ≤ i) : itL i = TL.numL i.toNat := by
  obtain ⟨n, rfl⟩ := Int.eq_ofNat_of_zero_le h
  exact itL_nat n
theorem itL_ng {i : Int} (h : i < 0) : itL i = 45 :: TL.numL i.natAbs := by
  obtain ⟨n, rfl⟩ := Int.eq_negSucc_of_lt_zero h
  exact itL_neg n
/-- what the figures are worth -/
def dv (l : List Nat) : Int := (NumText.digitsVal l : Nat)
theorem dig_mem {c : Nat} : c ∈ digL ↔ 48 ≤ c ∧ c ≤ 57 := by
  unfold digL
  constructor
  · intro h; simp at h; omega
  · intro h; simp; omega
theorem numL_dig (n : Nat) : ∀ c ∈ TL.numL n, c ∈ digL := fun c hc => dig_mem.mpr (TL.numL_digits n c hc)
theorem int_dig {a : List Nat} (h : ∀ c ∈ a, c ∈ digL) (hne : a ≠ []) (hl : a.length ≤ 640) : intF [.str (S a)] = some (.fz (.int (dv a))) := by
  have hz : intText? (S a) = some (dv a) := intText_digits (x := S a) (fun c hc => dig_mem.mp (h c (by simpa [S] using hc))) (by simpa [S] using hne) (by rw [S_len]; omega)
  show (if (S a).length ≤ 640 then (intText? (S a)).map fun n => Rv.fz (.int n) else none) = _
  rw [if_pos (by rw [S_len]; exact hl), hz]; rfl
theorem dv_num (n : Nat) : dv (TL.numL n) = (n : Int) := by unfold dv; rw [TL.numL_val]
theorem numL_le {n k : Nat} (h : n < 10 ^ (k + 1)) : (TL.numL n).length ≤ k + 1 := TL.numL_len (by omega) h
theorem str_it {i : Int} (h : i.natAbs < 2 ^ 1900) : strF [.int i] = some (.fz (.str (S (itL i)))) := by
  have h3 : i.natAbs.log2 < 1920 := by
    by_cases z : i.natAbs = 0
    · rw [z]; decide
    · have := (Nat.log2_lt (n := i.natAbs) (k := 1900) z).mpr h
      omega
  show (if i.natAbs.log2 < 1920 then some (Rv.fz (.str (toString i))) else none) = _
  rw [if_pos h3]
  exact congrArg (fun z => some (Rv.fz (D.str z))) (S_it i)
/-! ### a number read -/
def tk (a r : List Nat) : List Nat := r.takeWhile (· ∈ a)
def dr (a r : List Nat) : List Nat := r.dropWhile (· ∈ a)
theorem tk_dr (a r : List Nat) : tk a r ++ dr a r = r := List.takeWhile_append_dropWhile
theorem suf_dr {l r : List Nat} (h : r <:+ l) (a : List Nat) : dr a r <:+ l := (List.dropWhile_suffix _).trans h
theorem tk_mem {a : List Nat} : ∀ {r : List Nat}, ∀ c ∈ tk a r, c ∈ a
  | [], c, hc => by simp [tk] at hc
  | d :: r, c, hc => by
    unfold tk at hc
    rw [List.takeWhile_cons] at hc
    split at hc
    · rename_i h
      rcases List.mem_cons.mp hc with rfl | q
      · simpa using h
      · exact tk_mem (r := r) c q
    · simp at hc
/-- what stands next is none of a -/
def Stop (a r : List Nat) : Prop := ∀ c ∈ r.head?, c ∉ a
theorem tk_stop {a w r : List Nat} (hw : ∀ c ∈ w, c ∈ a) (h : Stop a r) : tk a (w ++ r) = w ∧ dr a (w ++ r) = r := by
  induction w with
  | nil =>
    cases r with
    | nil => exact ⟨rfl, rfl⟩
    | cons c r => have := h c rfl; simp [tk, dr, this]
  | cons c w ih =>
    obtain ⟨h1, h2⟩ := ih fun d hd => hw d (by simp [hd])
    have hc := hw c (by simp)
    unfold tk dr at *
    simp [hc, h1, h2]
def pNumQ (b : Bool) (q : List Nat) : Option (Int × List Nat) :=
  if tk digL q = [] then none else if 70 < (tk digL q).length then none else some (if b then 0 - dv (tk digL q) else dv (tk digL q), dr digL q)
def pNum (r : List Nat) : Option (Int × List Nat) := pNumQ ([45].isPrefixOf r) (if [45].isPrefixOf r then r.drop 1 else r)
theorem pNum_it {i : Int} (h : i.natAbs < 10 ^ 70) {r : List Nat} (hr : Stop digL r) : pNum (itL i ++ r) = some (i, r) := by
  by_cases hi : 0 ≤ i
  · obtain ⟨n, rfl⟩ := Int.eq_ofNat_of_zero_le hi
    rw [itL_nat]
    have hne := TL.numL_ne n
    have hl : (TL.numL n).length ≤ 70 := numL_le (k := 69) (by simpa using h)
    obtain ⟨t1, t2⟩ := tk_stop (numL_dig n) hr
    have hb : [45].isPrefixOf (TL.numL n ++ r) = false := by
      cases q : TL.numL n with
      | nil => exact absurd q hne
      | cons c w =>
        have := dig_mem.mp (numL_dig n c (by rw [q]; simp))
        simp [List.isPrefixOf]; omega
    unfold pNum pNumQ
    simp only [hb, Bool.false_eq_true, if_false, t1, t2, hne, dv_num]
    rw [if_neg (by omega)]
  · have hi : i < 0 := by omega
    rw [itL_ng hi]
    have hne := TL.numL_ne i.natAbs
    have hl : (TL.numL i.natAbs).length ≤ 70 := numL_le (k := 69) h
    obtain ⟨t1, t2⟩ := tk_stop (numL_dig i.natAbs) hr
    unfold pNum pNumQ
    have hb : [45].isPrefixOf (45 :: (TL.numL i.natAbs ++ r)) = true := by simp [List.isPrefixOf]
    simp only [List.cons_append, hb, if_true, List.drop_succ_cons, List.drop_zero, t1, t2, hne, if_false, dv_num]
    rw [if_neg (by omega)]
    have : (0 : Int) - (i.natAbs : Int) = i := by omega
    rw [this]
/-! ### how great a number read may be -/
theorem dval_lt : ∀ (l : List Nat) (a : Nat), (∀ c ∈ l, c ∈ digL) → l.foldl (fun acc c => acc * 10 + (c - 48)) a < (a + 1) * 10 ^ l.length
  | [], a, _ => by simp
  | c :: l, a, h => by
    have hc := dig_mem.mp (h c (by simp))
    have ih := dval_lt l (a * 10 + (c - 48)) fun d hd => h d (by simp [hd])
    rw [List.foldl_cons, List.length_cons, Nat.pow_succ]
    refine Nat.lt_of_lt_of_le ih ?_
    have : a * 10 + (c - 48) + 1 ≤ (a + 1) * 10 := by omega
    calc (a * 10 + (c - 48) + 1) * 10 ^ l.length ≤ (a + 1) * 10 * 10 ^ l.length := Nat.mul_le_mul_right _ this
      _ = (a + 1) * (10 ^ l.length * 10) := by rw [Nat.mul_assoc, Nat.mul_comm 10]
theorem dv_lt {l : List Nat} (h : ∀ c ∈ l, c ∈ digL) : (dv l).natAbs < 10 ^ l.length := by
  have := dval_lt l 0 h
  unfold dv NumText.digitsVal
  simpa using this
theorem dv_nn (l : List Nat) : 0 ≤ dv l := by unfold dv; omega
theorem itL_dv {l : List Nat} (h : ∀ c ∈ l, c ∈ digL) (h0 : l ≠ []) : (itL (dv l)).length ≤ l.length := by
  have h1 := dv_lt h
  have hp := List.length_pos_iff.mpr h0
  rw [itL_pos (dv_nn l)]
  have e : (dv l).toNat = (dv l).natAbs := by have := dv_nn l; omega
  rw [e]
  exact TL.numL_len hp h1
theorem itL_ndv {l : List Nat} (h : ∀ c ∈ l, c ∈ digL) (h0 : l ≠ []) : (itL (0 - dv l)).length ≤ l.length + 1 := by
  have h1 := dv_lt h
  have hp := List.length_pos_iff.mpr h0
  have h2 := dv_nn l
  by_cases z : dv l = 0
  · rw [z]
    rw [itL_pos (by omega)]
    have : (TL.numL ((0 : Int) - 0).toNat).length ≤ 1 := TL.numL_len (by decide) (by decide)
    omega
  · rw [itL_ng (by omega)]
    have e : (0 - dv l).natAbs = (dv l).natAbs := by omega
    rw [e, List.length_cons]
    have := TL.numL_len hp h1
    omega
theorem pNum_ok {r r' : List Nat} {i : Int} (h : pNum r = some (i, r')) : i.natAbs < 10 ^ 70 ∧ (itL i).length + r'.length ≤ r.length := by
  unfold pNum at h
  have hq : (if [45].isPrefixOf r = true then r.drop 1 else r).length + (if [45].isPrefixOf r = true then 1 else 0) ≤ r.length := by
    split
    · rename_i hp
      have := (List.isPrefixOf_iff_prefix.mp hp).length_le
      simp at *; omega
    · simp
  generalize (if [45].isPrefixOf r = true then r.drop 1 else r) = q at *
  generalize [45].isPrefixOf r = b at *
  unfold pNumQ at h
  split at h
  · cases h
  · rename_i h0
    split at h
    · cases h
    · have e := congrArg List.length (tk_dr digL q)
      simp only [Option.some.injEq, Prod.mk.injEq] at h
      obtain ⟨hi, rfl⟩ := h
      rw [List.length_append] at e
      have hm : ∀ c ∈ tk digL q, c ∈ digL := fun c hc => tk_mem c hc
      have h1 := dv_lt hm
      have h2 := Nat.pow_le_pow_right (n := 10) (by decide) (show (tk digL q).length ≤ 70 by omega)
      have h3 := itL_dv hm h0
      have h4 := itL_ndv hm h0
      cases b with
      | true => simp only [if_true] at hi hq; subst hi; exact ⟨by omega, by omega⟩
      | false => simp only [Bool.false_eq_true, if_false] at hi hq; subst hi; exact ⟨by omega, by omega⟩
theorem p70 {i : Int} (h : i.natAbs < 10 ^ 70) : i.natAbs < 2 ^ 1900 := Nat.lt_of_lt_of_le h (by
  have : (10 : Nat) ^ 70 ≤ 2 ^ 240 := by decide
  exact Nat.le_trans this (Nat.pow_le_pow_right (by decide) (by decide)))
end Sc

set_option Elab.async false
set_option linter.all false
set_option maxRecDepth 100000
namespace Hd
open PySem PySem.Spec PyProof.Rows L2
def topS (i : Nat) : Stmt := PySem.Challenge.pw_shapecourt_k82_values_written_and_read.main.body.getD i (.Pass ⟨0, 0, 0, 0⟩)
abbrev mkD (at_ : Str × Option Str) (x q : Str) (st : Stmt) : He.DefD := ⟨at_, x, q, defArgs st, defBody st, defScope st, [], []⟩
def d_is_whole : He.DefD := mkD ("is_whole", none) "is_whole" "is_whole" (topS 4)
def d_all_makes : He.DefD := mkD ("all_makes", none) "all_makes" "all_makes" (topS 7)
def d_is_value : He.DefD := mkD ("is_value", none) "is_value" "is_value" (topS 9)
def d_are_values : He.DefD := mkD ("are_values", none) "are_values" "are_values" (topS 10)
def d_in_brackets : He.DefD := mkD ("in_brackets", none) "in_brackets" "in_brackets" (topS 16)
def d_written_value : He.DefD := mkD ("written_value", none) "written_value" "written_value" (topS 17)
def d_Strip___init__ : He.DefD := mkD ("Strip", some "__init__") "__init__" "Strip.__init__" (L2.inClass (topS 18) 0)
def d_Strip_is_through : He.DefD := mkD ("Strip", some "is_through") "is_through" "Strip.is_through" (L2.inClass (topS 18) 1)
def d_Strip_meets : He.DefD := mkD ("Strip", some "meets") "meets" "Strip.meets" (L2.inClass (topS 18) 2)
def d_Strip_passes : He.DefD := mkD ("Strip", some "passes") "passes" "Strip.passes" (L2.inClass (topS 18) 3)
def d_Strip_must_pass : He.DefD := mkD ("Strip", some "must_pass") "must_pass" "Strip.must_pass" (L2.inClass (topS 18) 4)
def d_Strip_stretch_of : He.DefD := mkD ("Strip", some "stretch_of") "stretch_of" "Strip.stretch_of" (L2.inClass (topS 18) 5)
def d_Strip_number_next : He.DefD := mkD ("Strip", some "number_next") "number_next" "Strip.number_next" (L2.inClass (topS 18) 6)
def d_Strip_ends_well : He.DefD := mkD ("Strip", some "ends_well") "ends_well" "Strip.ends_well" (L2.inClass (topS 18) 7)
def d_value_read : He.DefD := mkD ("value_read", none) "value_read" "value_read" (topS 19)
def d_strip_of : He.DefD := mkD ("strip_of", none) "strip_of" "strip_of" (topS 20)
def d_read_value : He.DefD := mkD ("read_value", none) "read_value" "read_value" (topS 21)
def d__law_cell : He.DefD := mkD ("_law_cell", none) "_law_cell" "_law_cell" (topS 23)
def d__law_dig : He.DefD := mkD ("_law_dig", none) "_law_dig" "_law_dig" (topS 24)
def d__law_next : He.DefD := mkD ("_law_next", none) "_law_next" "_law_next" (topS 25)
def d__law_calls : He.DefD := mkD ("_law_calls", none) "_law_calls" "_law_calls" (topS 26)
def d__law_volume : He.DefD := mkD ("_law_volume", none) "_law_volume" "_law_volume" (topS 27)
def d__law_rounds : He.DefD := mkD ("_law_rounds", none) "_law_rounds" "_law_rounds" (topS 28)
def d__law_all_makes : He.DefD := mkD ("_law_all_makes", none) "_law_all_makes" "_law_all_makes" (topS 29)
def d__law_alive : He.DefD := mkD ("_law_alive", none) "_law_alive" "_law_alive" (topS 30)
def d__law_alike : He.DefD := mkD ("_law_alike", none) "_law_alike" "_law_alike" (topS 31)
def d__law_bracketed : He.DefD := mkD ("_law_bracketed", none) "_law_bracketed" "_law_bracketed" (topS 32)
def d__law_value_text : He.DefD := mkD ("_law_value_text", none) "_law_value_text" "_law_value_text" (topS 33)
def d__law_number : He.DefD := mkD ("_law_number", none) "_law_number" "_law_number" (topS 34)
def d__law_item : He.DefD := mkD ("_law_item", none) "_law_item" "_law_item" (topS 35)
def d__law_chained : He.DefD := mkD ("_law_chained", none) "_law_chained" "_law_chained" (topS 36)
def d__law_chain : He.DefD := mkD ("_law_chain", none) "_law_chain" "_law_chain" (topS 37)
def d_law : He.DefD := mkD ("law", none) "law" "law" (topS 38)
def fn : List He.DefD := [d_is_whole, d_all_makes, d_is_value, d_are_values, d_in_brackets, d_written_value, d_Strip___init__, d_Strip_is_through, d_Strip_meets, d_Strip_passes, d_Strip_must_pass, d_Strip_stretch_of, d_Strip_number_next, d_Strip_ends_well, d_value_read, d_strip_of, d_read_value, d__law_cell, d__law_dig, d__law_next, d__law_calls, d__law_volume, d__law_rounds, d__law_all_makes, d__law_alive, d__law_alike, d__law_bracketed, d__law_value_text, d__law_number, d__law_item, d__law_chained, d__law_chain, d_law]
def fa : List He.Fa := [.free "all", .free "bool", .free "int", .free "isinstance", .free "len", .free "list", .free "max", .free "min", .free "range", .free "str", .free "tuple", .free "zip", .str "NUM" "num", .str "LETTERS" "abcdefghijklmnopqrstuvwxyz", .str "FIGURES" "0123456789", .int "MOST_FIGURES" 70, .int "DEEPEST_VALUE" 30, .glo "is_whole", .glo "all_makes", .glo "is_value", .glo "are_values", .glo "in_brackets", .glo "written_value", .meth "Strip" "__init__", .meth "Strip" "is_through", .meth "Strip" "meets", .meth "Strip" "passes", .meth "Strip" "must_pass", .meth "Strip" "stretch_of", .meth "Strip" "number_next", .meth "Strip" "ends_well", .glo "value_read", .glo "strip_of", .glo "read_value", .glo "_law_cell", .glo "_law_dig", .glo "_law_next", .glo "_law_calls", .glo "_law_volume", .glo "_law_rounds", .glo "_law_all_makes", .glo "_law_alive", .glo "_law_alike", .glo "_law_bracketed", .glo "_law_value_text", .glo "_law_number", .glo "_law_item", .glo "_law_chained", .glo "_law_chain", .glo "law", .glo "Strip", .cls "Strip", .mkr "Strip", .noat "Strip" "signs", .noat "Strip" "spot", .glo "CourtError", .exc "CourtError", .glo "NoText", .exc "NoText"]
def nms0 : List PySem.Str := ["__name__", "CourtError", "NoText", "is_whole", "NUM", "all_makes", "is_value", "are_values", "LETTERS", "FIGURES", "MOST_FIGURES", "DEEPEST_VALUE", "in_brackets", "written_value", "Strip", "value_read", "strip_of", "read_value", "_law_cell", "_law_dig", "_law_next", "_law_calls", "_law_volume", "_law_rounds", "_law_all_makes", "_law_alive", "_law_alike", "_law_bracketed", "_law_value_text", "_law_number"]
def nms1 : List PySem.Str := ["_law_item", "_law_chained", "_law_chain"]
def nms : List PySem.Str := nms0 ++ nms1
abbrev R : PySem.W.OpenRow := PySem.W.OpenLaw.row PySem.Challenge.rw_shapecourt_k82_values_written_and_read
abbrev hk : PySem.W.Hook := He.hookD 4 fa fn
def ob (s : PySem.W.SharedT) : He.AlD := He.obsDG 4 fa fn (HandSHeadRun.getT s)
theorem ob_eq (s : PySem.W.SharedT) : ob s = hk.obs s.abs := He.obsDG_eq (HandSHeadRun.getT_eq s)
set_option maxHeartbeats 0 in
theorem run (w : World) : HandSHeadRun.RunEq R (PySem.W.view R.prog [38]) hk ob 3000 nms w := by
  intro os
  kernel_rfl
end Hd

set_option linter.all false
set_option autoImplicit false
set_option maxRecDepth 100000
set_option maxHeartbeats 400000
namespace Sc.Law
open PySem PySem.Spec PyProof.Rows L2 Sc
theorem lit_numL : ("num" : Str) = (S numL) := by decide +kernel
theorem lit_1 : ("(" : Str) = (S [40]) := by decide +kernel
theorem lit_2 : (" " : Str) = (S [32]) := by decide +kernel
theorem lit_3 : (")" : Str) = (S [41]) := by decide +kernel
theorem lit_4 : ("-" : Str) = (S [45]) := by decide +kernel
theorem lit_digL : ("0123456789" : Str) = (S digL) := by decide +kernel
theorem lit_azL : ("abcdefghijklmnopqrstuvwxyz" : Str) = (S azL) := by decide +kernel
theorem lit_7 : ("" : Str) = (S []) := by decide +kernel
theorem lit_8 : ("numb" : Str) = (S [110, 117, 109, 98]) := by decide +kernel
theorem lit_9 : ("strands" : Str) = (S [115, 116, 114, 97, 110, 100, 115]) := by decide +kernel
theorem lit_10 : ("chain" : Str) = (S [99, 104, 97, 105, 110]) := by decide +kernel
theorem lit_11 : ("row" : Str) = (S [114, 111, 119]) := by decide +kernel
theorem lit_12 : ("theend" : Str) = (S [116, 104, 101, 101, 110, 100]) := by decide +kernel
theorem lit_13 : ("end" : Str) = (S [101, 110, 100]) := by decide +kernel
theorem lit_14 : ("e" : Str) = (S [101]) := by decide +kernel
theorem lit_15 : ("furthers" : Str) = (S [102, 117, 114, 116, 104, 101, 114, 115]) := by decide +kernel
theorem lit_16 : ("more" : Str) = (S [109, 111, 114, 101]) := by decide +kernel
theorem lit_17 : ("ab" : Str) = (S [97, 98]) := by decide +kernel
inductive Fn where
  | is_whole | all_makes | is_value | are_values | in_brackets | written_value | Strip___init__ | Strip_is_through | Strip_meets | Strip_passes | Strip_must_pass | Strip_stretch_of | Strip_number_next | Strip_ends_well | value_read | strip_of | read_value | _law_cell | _law_dig | _law_next | _law_calls | _law_volume | _law_rounds | _law_all_makes | _law_alive | _law_alike | _law_bracketed | _law_value_text | _law_number | _law_item | _law_chained | _law_chain | law
noncomputable def b_is_whole (T : Fn → Fun) : M Fl :=
    (retM (andM (isiM "int" (nameM 0)) (notM (isiM "bool" (nameM 0)))))
noncomputable def l_all_makes_1 (T : Fn → Fun) : M Fl :=
    (forM (tupGn 2 (consG (nameG 2) (consG (nameG 3) nilG))) (wipeS [2, 3] (ifS (testM (opM eqOF2 (nameM 2) (nameM 1))) (retM (nameM 3)) skipM)) (iterM (nameM 0)))
noncomputable def b_all_makes (T : Fn → Fun) : M Fl :=
    (seqM (wipeS [2, 3] (l_all_makes_1 T))
    (retM (tupM nilA)))
noncomputable def l_is_value_1 (T : Fn → Fun) : M Fl :=
    (forM (tupGn 2 (consG (nameG 3) (consG (nameG 4) nilG))) (wipeS [3, 4] (ifS (testM (opM eqOF2 (nameM 3) (opM ixF (nameM 2) (constM (.int 0))))) (retM (andM (opM eqOF2 (bltM lenF (consA (nameM 2) nilA)) (opM addF (bltM lenF (consA (nameM 4) nilA)) (constM (.int 1)))) (callM [false, false, false] (T .are_values) (consA (nameM 0) (consA (nameM 4) (consA (sliceM (nameM 2) (intM (constM (.int 1))) (constM .non)) nilA)))))) skipM)) (iterM (callM [false, false] (T .all_makes) (consA (nameM 0) (consA (nameM 1) nilA)))))
noncomputable def b_is_value (T : Fn → Fun) : M Fl :=
    (seqM (ifS (testM (opM eqOF2 (nameM 1) (constM (.str (S numL))))) (retM (callM [false] (T .is_whole) (consA (nameM 2) nilA))) skipM)
    (seqM (ifS (orT (notT (testM (isiM "tuple" (nameM 2)))) (testM (opM eqOF2 (bltM lenF (consA (nameM 2) nilA)) (constM (.int 0))))) (retM (constM (.bl false))) skipM)
    (seqM (wipeS [3, 4] (l_is_value_1 T))
    (retM (constM (.bl false))))))
noncomputable def c_are_values_1 (T : Fn → Fun) : M Rv :=
    (lcM [3, 4] (tupGn 2 (consG (nameG 3) (consG (nameG 4) nilG))) yesT (callM [false, false, false] (T .is_value) (consA (nameM 0) (consA (nameM 3) (consA (nameM 4) nilA)))) (zipM (consA (nameM 1) (consA (nameM 2) nilA))))
noncomputable def b_are_values (T : Fn → Fun) : M Fl :=
    (retM (bltM allF (consA (c_are_values_1 T) nilA)))
noncomputable def b_in_brackets (T : Fn → Fun) : M Fl :=
    (seqM (ifS (testM (opM eqOF2 (bltM lenF (consA (nameM 1) nilA)) (constM (.int 0)))) (retM (nameM 0)) skipM)
    (retM (opM addF (opM addF (opM addF (nameM 0) (constM (.str (S [40])))) (strMM joinF (constM (.str (S [32]))) (consA (nameM 1) nilA))) (constM (.str (S [41]))))))
noncomputable def c_written_value_1 (T : Fn → Fun) : M Rv :=
    (lcM [1] (nameG 1) yesT (callM [false] (T .written_value) (consA (nameM 1) nilA)) (iterM (sliceM (nameM 0) (intM (constM (.int 1))) (constM .non))))
noncomputable def b_written_value (T : Fn → Fun) : M Fl :=
    (seqM (ifS (notT (testM (isiM "tuple" (nameM 0)))) (retM (bltM strF (consA (nameM 0) nilA))) skipM)
    (retM (callM [false, false] (T .in_brackets) (consA (opM ixF (nameM 0) (constM (.int 0))) (consA (c_written_value_1 T) nilA)))))
noncomputable def b_Strip___init__ (T : Fn → Fun) : M Fl :=
    (seqM (putFM "Strip" "signs" 0 (nameM 1))
    (putFM "Strip" "spot" 0 (constM (.int 0))))
noncomputable def b_Strip_is_through (T : Fn → Fun) : M Fl :=
    (retM (opM eqOF2 (fldM "Strip" "spot" (nameM 0)) (bltM lenF (consA (fldM "Strip" "signs" (nameM 0)) nilA))))
noncomputable def b_Strip_meets (T : Fn → Fun) : M Fl :=
    (retM (andM (notM (methM "Strip" "is_through" [] (T .Strip_is_through) (nameM 0) nilA)) (opM (inOF false) (opM ixF (fldM "Strip" "signs" (nameM 0)) (fldM "Strip" "spot" (nameM 0))) (nameM 1))))
noncomputable def b_Strip_passes (T : Fn → Fun) : M Fl :=
    (seqM (ifS (notT (testM (strMM startsF (fldM "Strip" "signs" (nameM 0)) (consA (nameM 1) (consA (fldM "Strip" "spot" (nameM 0)) nilA))))) (retM (constM (.bl false))) skipM)
    (seqM (putFM "Strip" "spot" 0 (opM addF (fldM "Strip" "spot" (nameM 0)) (bltM lenF (consA (nameM 1) nilA))))
    (retM (constM (.bl true)))))
noncomputable def b_Strip_must_pass (T : Fn → Fun) : M Fl :=
    (ifS (notT (testM (methM "Strip" "passes" [false] (T .Strip_passes) (nameM 0) (consA (nameM 1) nilA)))) (raiseM "NoText") skipM)
noncomputable def w_Strip_stretch_of_1 (T : Fn → Fun) : M Fl :=
    (whileM (testM (methM "Strip" "meets" [false] (T .Strip_meets) (nameM 0) (consA (nameM 1) nilA))) (putFM "Strip" "spot" 0 (opM addF (fldM "Strip" "spot" (nameM 0)) (constM (.int 1)))))
noncomputable def b_Strip_stretch_of (T : Fn → Fun) : M Fl :=
    (seqM (setM 2 (fldM "Strip" "spot" (nameM 0)))
    (seqM (w_Strip_stretch_of_1 T)
    (seqM (ifS (testM (opM eqOF2 (fldM "Strip" "spot" (nameM 0)) (nameM 2))) (raiseM "NoText") skipM)
    (retM (sliceM (fldM "Strip" "signs" (nameM 0)) (intM (nameM 2)) (intM (fldM "Strip" "spot" (nameM 0))))))))
noncomputable def b_Strip_number_next (T : Fn → Fun) : M Fl :=
    (seqM (setM 1 (methM "Strip" "passes" [false] (T .Strip_passes) (nameM 0) (consA (constM (.str (S [45]))) nilA)))
    (seqM (setM 2 (methM "Strip" "stretch_of" [false] (T .Strip_stretch_of) (nameM 0) (consA (constM (.str (S digL))) nilA)))
    (seqM (ifS (testM (opM gtF (bltM lenF (consA (nameM 2) nilA)) (constM (.int 70)))) (raiseM "NoText") skipM)
    (seqM (ifS (testM (nameM 1)) (retM (opM subF (constM (.int 0)) (bltM intF (consA (nameM 2) nilA)))) skipM)
    (retM (bltM intF (consA (nameM 2) nilA)))))))
noncomputable def b_Strip_ends_well (T : Fn → Fun) : M Fl :=
    (ifS (notT (testM (methM "Strip" "is_through" [] (T .Strip_is_through) (nameM 0) nilA))) (raiseM "NoText") skipM)
noncomputable def w_value_read_1 (T : Fn → Fun) : M Fl :=
    (whileM (testM (methM "Strip" "passes" [false] (T .Strip_passes) (nameM 0) (consA (constM (.str (S [32]))) nilA))) (exprM (mutM appendF 3 (consA (callM [true, false] (T .value_read) (consA (nameM 0) (consA (opM subF (nameM 1) (constM (.int 1))) nilA))) nilA))))
noncomputable def b_value_read (T : Fn → Fun) : M Fl :=
    (seqM (ifS (testM (methM "Strip" "meets" [false] (T .Strip_meets) (nameM 0) (consA (opM addF (constM (.str (S [45]))) (constM (.str (S digL)))) nilA))) (retM (methM "Strip" "number_next" [] (T .Strip_number_next) (nameM 0) nilA)) skipM)
    (seqM (setM 2 (methM "Strip" "stretch_of" [false] (T .Strip_stretch_of) (nameM 0) (consA (constM (.str (S azL))) nilA)))
    (seqM (ifS (testM (opM eqOF2 (nameM 1) (constM (.int 0)))) (raiseM "NoText") skipM)
    (seqM (setM 3 (lstM nilA))
    (seqM (ifS (testM (methM "Strip" "passes" [false] (T .Strip_passes) (nameM 0) (consA (constM (.str (S [40]))) nilA))) (seqM (exprM (mutM appendF 3 (consA (callM [true, false] (T .value_read) (consA (nameM 0) (consA (opM subF (nameM 1) (constM (.int 1))) nilA))) nilA)))
    (seqM (w_value_read_1 T)
    (exprM (methM "Strip" "must_pass" [false] (T .Strip_must_pass) (nameM 0) (consA (constM (.str (S [41]))) nilA))))) skipM)
    (retM (opM addF (tupM (consA (nameM 2) nilA)) (bltM tupleF (consA (nameM 3) nilA)))))))))
noncomputable def b_strip_of (T : Fn → Fun) : M Fl :=
    (seqM (ifS (notT (testM (isiM "str" (nameM 0)))) (raiseM "NoText") skipM)
    (retM (newM "Strip" [false] (T .Strip___init__) (consA (nameM 0) nilA))))
noncomputable def b_read_value (T : Fn → Fun) : M Fl :=
    (seqM (setM 3 (callM [false] (T .strip_of) (consA (nameM 2) nilA)))
    (seqM (setM 4 (callM [true, false] (T .value_read) (consA (nameM 3) (consA (constM (.int 30)) nilA))))
    (seqM (exprM (methM "Strip" "ends_well" [] (T .Strip_ends_well) (nameM 3) nilA))
    (seqM (ifS (orT (notT (testM (callM [false, false, false] (T .is_value) (consA (nameM 0) (consA (nameM 1) (consA (nameM 4) nilA)))))) (testM (opM neOF2 (callM [false] (T .written_value) (consA (nameM 4) nilA)) (nameM 2)))) (raiseM "NoText") skipM)
    (retM (nameM 4))))))
noncomputable def b__law_cell (T : Fn → Fun) : M Fl :=
    (seqM (ifS (testM (opM ltF (nameM 1) (bltM lenF (consA (nameM 0) nilA)))) (retM (opM ixF (nameM 0) (nameM 1))) skipM)
    (retM (opM addF (opM mulF2 (opM mulF2 (constM (.int 7919)) (nameM 1)) (nameM 1)) (opM mulF2 (constM (.int 17)) (nameM 1)))))
noncomputable def b__law_dig (T : Fn → Fun) : M Fl :=
    (retM (lstM (consA (bltM maxF (consA (constM (.int 0)) (consA (opM subF (nameM 0) (opM powF (constM (.int 10)) (constM (.int 18)))) nilA))) (consA (opM modF (nameM 0) (opM powF (constM (.int 10)) (constM (.int 18)))) (consA (constM (.int 0)) nilA)))))
noncomputable def b__law_next (T : Fn → Fun) : M Fl :=
    (seqM (ifS (testM (opM gtF (opM ixF (nameM 0) (constM (.int 0))) (constM (.int 0)))) (seqM (setM 4 (opM modF (opM ixF (nameM 0) (constM (.int 0))) (nameM 1)))
    (seqM (putM 0 (opM fdivF2 (opM ixF (nameM 0) (constM (.int 0))) (nameM 1)) (constM (.int 0)))
    (retM (nameM 4)))) skipM)
    (seqM (putM 0 (opM addF (opM ixF (nameM 0) (constM (.int 2))) (constM (.int 1))) (constM (.int 2)))
    (seqM (setM 2 (opM modF (opM addF (opM ixF (nameM 0) (constM (.int 1))) (opM mulF2 (constM (.int 7919)) (opM ixF (nameM 0) (constM (.int 2))))) (constM (.int 1000000007))))
    (seqM (setM 3 (opM modF (opM mulF2 (opM addF (nameM 2) (constM (.int 11))) (opM addF (nameM 2) (constM (.int 48271)))) (constM (.int 998244353))))
    (retM (opM modF (opM fdivF2 (opM modF (opM mulF2 (nameM 3) (nameM 3)) (constM (.int 2147483647))) (constM (.int 8))) (nameM 1)))))))
noncomputable def c__law_calls_1 (T : Fn → Fun) : M Rv :=
    (lcM [8] (nameG 8) yesT (opM ixF (nameM 2) (callM [true, false] (T ._law_next) (consA (nameM 0) (consA (constM (.int 26)) nilA)))) (rng1M (consA (callM [true, false] (T ._law_next) (consA (nameM 0) (consA (constM (.int 7)) nilA))) nilA)))
noncomputable def l__law_calls_1 (T : Fn → Fun) : M Fl :=
    (forM (nameG 8) (wipeS [8, 9] (seqM (setM 9 (opM addF (opM addF (sliceM (nameM 3) (constM .non) (intM (nameM 4))) (opM ixF (nameM 2) (opM modF (opM addF (nameM 5) (opM mulF2 (constM (.int 5)) (nameM 8))) (constM (.int 26))))) (sliceM (nameM 3) (intM (nameM 4)) (constM .non))))
    (seqM (ifS (andT (testM (opM eqOF2 (nameM 6) (constM (.int 1)))) (testM (opM eqOF2 (opM modF (nameM 8) (constM (.int 2))) (constM (.int 1))))) (setM 9 (opM addF (nameM 9) (opM ixF (nameM 2) (opM modF (opM addF (nameM 5) (nameM 8)) (constM (.int 26)))))) skipM)
    (exprM (mutM appendF 7 (consA (nameM 9) nilA)))))) (rng1M (consA (nameM 1) nilA)))
noncomputable def b__law_calls (T : Fn → Fun) : M Fl :=
    (seqM (setM 2 (constM (.str (S azL))))
    (seqM (setM 3 (strMM joinF (constM (.str (S []))) (consA (c__law_calls_1 T) nilA)))
    (seqM (setM 4 (callM [true, false] (T ._law_next) (consA (nameM 0) (consA (opM addF (bltM lenF (consA (nameM 3) nilA)) (constM (.int 1))) nilA))))
    (seqM (setM 5 (callM [true, false] (T ._law_next) (consA (nameM 0) (consA (constM (.int 26)) nilA))))
    (seqM (setM 6 (callM [true, false] (T ._law_next) (consA (nameM 0) (consA (constM (.int 3)) nilA))))
    (seqM (setM 7 (lstM nilA))
    (seqM (wipeS [8, 9] (l__law_calls_1 T))
    (retM (nameM 7)))))))))
noncomputable def c__law_volume_1 (T : Fn → Fun) : M Rv :=
    (lcM [8] (nameG 8) yesT (opM ixF (lstM (consA (nameM 8) (consA (constM (.str (S [110, 117, 109, 98]))) nilA))) (bltM intF (consA (opM eqOF2 (nameM 8) (constM (.str (S numL)))) nilA))) (iterM (callM [true, false] (T ._law_calls) (consA (nameM 0) (consA (nameM 1) nilA)))))
noncomputable def c__law_volume_2 (T : Fn → Fun) : M Rv :=
    (lcM [11] (nameG 11) yesT (opM ixF (opM addF (nameM 2) (opM mulF2 (lstM (consA (constM (.str (S numL))) nilA)) (constM (.int 2)))) (callM [true, false] (T ._law_next) (consA (nameM 0) (consA (opM addF (nameM 1) (constM (.int 2))) nilA)))) (rng1M (consA (nameM 9) nilA)))
noncomputable def l__law_volume_1 (T : Fn → Fun) : M Fl :=
    (forM (nameG 7) (wipeS [7, 9, 10] (seqM (setM 9 (bltM minF (consA (opM ixF (lstM (consA (constM (.int 0)) (consA (constM (.int 0)) (consA (constM (.int 1)) (consA (constM (.int 1)) (consA (constM (.int 2)) (consA (constM (.int 2)) (consA (constM (.int 3)) (consA (constM (.int 4)) nilA))))))))) (callM [true, false] (T ._law_next) (consA (nameM 0) (consA (constM (.int 8)) nilA)))) (consA (opM ixF (lstM (consA (constM (.int 4)) (consA (constM (.int 2)) nilA))) (bltM intF (consA (opM gtF (nameM 1) (constM (.int 4))) nilA))) nilA))))
    (seqM (setM 10 (c__law_volume_2 T))
    (exprM (mutM appendF 6 (consA (tupM (consA (mutM popAtF 3 (consA (constM (.int 0)) nilA)) (consA (bltM tupleF (consA (nameM 10) nilA)) nilA))) nilA)))))) (rng1M (consA (bltM minF (consA (opM ixF (lstM (consA (constM (.int 1)) (consA (constM (.int 2)) (consA (constM (.int 2)) (consA (constM (.int 3)) (consA (constM (.int 3)) (consA (constM (.int 2)) (consA (constM (.int 4)) (consA (constM (.int 6)) nilA))))))))) (callM [true, false] (T ._law_next) (consA (nameM 0) (consA (constM (.int 8)) nilA)))) (consA (opM addF (opM addF (opM subF (bltM lenF (consA (nameM 3) nilA)) (nameM 1)) (bltM lenF (consA (nameM 4) nilA))) (constM (.int 1))) nilA))) nilA)))
noncomputable def l__law_volume_2 (T : Fn → Fun) : M Fl :=
    (forM (nameG 5) (wipeS [5, 6, 7, 9, 10] (seqM (setM 6 (lstM nilA))
    (seqM (wipeS [7, 9, 10] (l__law_volume_1 T))
    (exprM (mutM appendF 4 (consA (tupM (consA (nameM 5) (consA (bltM tupleF (consA (nameM 6) nilA)) nilA))) nilA)))))) (iterM (nameM 2)))
noncomputable def b__law_volume (T : Fn → Fun) : M Fl :=
    (seqM (setM 1 (opM ixF (lstM (consA (constM (.int 1)) (consA (constM (.int 2)) (consA (constM (.int 2)) (consA (constM (.int 3)) (consA (constM (.int 3)) (consA (constM (.int 4)) (consA (constM (.int 4)) (consA (constM (.int 5)) nilA))))))))) (callM [true, false] (T ._law_next) (consA (nameM 0) (consA (constM (.int 8)) nilA)))))
    (seqM (setM 2 (c__law_volume_1 T))
    (seqM (setM 3 (callM [true, false] (T ._law_calls) (consA (nameM 0) (consA (constM (.int 26)) nilA))))
    (seqM (setM 4 (lstM nilA))
    (seqM (wipeS [5, 6, 7, 9, 10] (l__law_volume_2 T))
    (retM (bltM tupleF (consA (nameM 4) nilA))))))))
noncomputable def c__law_rounds_1 (T : Fn → Fun) : M Rv :=
    (lcM [7] (nameG 7) yesT (opM (inOF false) (nameM 7) (nameM 3)) (iterM (opM ixF (nameM 6) (constM (.int 1)))))
noncomputable def l__law_rounds_1 (T : Fn → Fun) : M Fl :=
    (forM (nameG 6) (wipeS [6] (ifS (andT (testM (opM (inOF true) (nameM 4) (nameM 1))) (testM (bltM allF (consA (c__law_rounds_1 T) nilA)))) (putM 1 (nameM 6) (nameM 4)) skipM)) (iterM (nameM 5)))
noncomputable def l__law_rounds_2 (T : Fn → Fun) : M Fl :=
    (forM (tupGn 2 (consG (nameG 4) (consG (nameG 5) nilG))) (wipeS [4, 5, 6] (wipeS [6] (l__law_rounds_1 T))) (iterM (nameM 0)))
noncomputable def l__law_rounds_3 (T : Fn → Fun) : M Fl :=
    (forM (nameG 2) (wipeS [2, 3, 4, 5, 6] (seqM (setM 3 (opM addF (bltM listF2 (consA (nameM 1) nilA)) (lstM (consA (constM (.str (S numL))) nilA))))
    (wipeS [4, 5, 6] (l__law_rounds_2 T)))) (rng1M (consA (bltM lenF (consA (nameM 0) nilA)) nilA)))
noncomputable def b__law_rounds (T : Fn → Fun) : M Fl :=
    (seqM (setM 1 dic0M)
    (seqM (wipeS [2, 3, 4, 5, 6] (l__law_rounds_3 T))
    (retM (nameM 1))))
noncomputable def l__law_all_makes_1 (T : Fn → Fun) : M Fl :=
    (forM (tupGn 2 (consG (nameG 2) (consG (nameG 3) nilG))) (wipeS [2, 3] (ifS (testM (opM eqOF2 (nameM 2) (nameM 1))) (retM (bltM listF2 (consA (nameM 3) nilA))) skipM)) (iterM (opM ixF (nameM 0) (constM (.int 0)))))
noncomputable def b__law_all_makes (T : Fn → Fun) : M Fl :=
    (seqM (wipeS [2, 3] (l__law_all_makes_1 T))
    (retM (lstM nilA)))
noncomputable def c__law_alive_1 (T : Fn → Fun) : M Rv :=
    (lcM [4] (nameG 4) yesT (orM (opM eqOF2 (nameM 4) (constM (.str (S numL)))) (opM (inOF false) (nameM 4) (opM ixF (nameM 0) (constM (.int 1))))) (iterM (opM ixF (nameM 3) (constM (.int 1)))))
noncomputable def l__law_alive_1 (T : Fn → Fun) : M Fl :=
    (forM (nameG 3) (wipeS [3] (ifS (testM (bltM allF (consA (c__law_alive_1 T) nilA))) (exprM (mutM appendF 2 (consA (nameM 3) nilA))) skipM)) (iterM (callM [false, false] (T ._law_all_makes) (consA (nameM 0) (consA (nameM 1) nilA)))))
noncomputable def b__law_alive (T : Fn → Fun) : M Fl :=
    (seqM (setM 2 (lstM nilA))
    (seqM (wipeS [3] (l__law_alive_1 T))
    (retM (nameM 2))))
noncomputable def c__law_alike_1 (T : Fn → Fun) : M Rv :=
    (lcM [2, 3] (tupGn 2 (consG (nameG 2) (consG (nameG 3) nilG))) yesT (callM [false, false] (T ._law_alike) (consA (nameM 2) (consA (nameM 3) nilA))) (zipM (consA (nameM 0) (consA (nameM 1) nilA))))
noncomputable def b__law_alike (T : Fn → Fun) : M Fl :=
    (seqM (ifS (testM (isiM "tuple" (nameM 1))) (seqM (ifS (orT (notT (testM (isiM "tuple" (nameM 0)))) (testM (opM neOF2 (bltM lenF (consA (nameM 0) nilA)) (bltM lenF (consA (nameM 1) nilA))))) (retM (constM (.bl false))) skipM)
    (retM (bltM allF (consA (c__law_alike_1 T) nilA)))) skipM)
    (seqM (ifS (testM (isiM "int" (nameM 1))) (retM (andM (isiM "int" (nameM 0)) (andM (notM (isiM "bool" (nameM 0))) (opM eqOF2 (nameM 0) (nameM 1))))) skipM)
    (seqM (ifS (testM (isiM "str" (nameM 1))) (retM (andM (isiM "str" (nameM 0)) (opM eqOF2 (nameM 0) (nameM 1)))) skipM)
    (retM (andM (opM isNF (nameM 0) (constM .non)) (opM isNF (nameM 1) (constM .non)))))))
noncomputable def b__law_bracketed (T : Fn → Fun) : M Fl :=
    (seqM (ifS (testM (opM eqOF2 (bltM lenF (consA (nameM 1) nilA)) (constM (.int 0)))) (retM (nameM 0)) skipM)
    (retM (opM addF (opM addF (opM addF (nameM 0) (constM (.str (S [40])))) (strMM joinF (constM (.str (S [32]))) (consA (nameM 1) nilA))) (constM (.str (S [41]))))))
noncomputable def c__law_value_text_1 (T : Fn → Fun) : M Rv :=
    (lcM [1] (nameG 1) yesT (callM [false] (T ._law_value_text) (consA (nameM 1) nilA)) (iterM (sliceM (nameM 0) (intM (constM (.int 1))) (constM .non))))
noncomputable def b__law_value_text (T : Fn → Fun) : M Fl :=
    (seqM (ifS (notT (testM (isiM "tuple" (nameM 0)))) (retM (bltM strF (consA (nameM 0) nilA))) skipM)
    (retM (callM [false, false] (T ._law_bracketed) (consA (opM ixF (nameM 0) (constM (.int 0))) (consA (c__law_value_text_1 T) nilA)))))
noncomputable def b__law_number (T : Fn → Fun) : M Fl :=
    (seqM (setM 1 (callM [true, false] (T ._law_next) (consA (nameM 0) (consA (constM (.int 8)) nilA))))
    (seqM (ifS (testM (opM ltF (nameM 1) (constM (.int 6)))) (retM (opM subF (callM [true, false] (T ._law_next) (consA (nameM 0) (consA (constM (.int 9)) nilA))) (constM (.int 4)))) skipM)
    (seqM (ifS (testM (opM eqOF2 (nameM 1) (constM (.int 6)))) (retM (opM subF (callM [true, false] (T ._law_next) (consA (nameM 0) (consA (constM (.int 2001)) nilA))) (constM (.int 1000)))) skipM)
    (retM (opM subF (callM [true, false] (T ._law_next) (consA (nameM 0) (consA (opM powF (constM (.int 10)) (constM (.int 60))) nilA))) (callM [true, false] (T ._law_next) (consA (nameM 0) (consA (opM powF (constM (.int 10)) (constM (.int 60))) nilA))))))))
noncomputable def c__law_item_1 (T : Fn → Fun) : M Rv :=
    (lcM [6] (nameG 6) yesT (callM [false, false, true, false] (T ._law_item) (consA (nameM 0) (consA (nameM 6) (consA (nameM 2) (consA (opM subF (nameM 3) (constM (.int 1))) nilA))))) (iterM (opM ixF (nameM 5) (constM (.int 1)))))
noncomputable def b__law_item (T : Fn → Fun) : M Fl :=
    (seqM (ifS (testM (opM eqOF2 (nameM 1) (constM (.str (S numL))))) (retM (callM [true] (T ._law_number) (consA (nameM 2) nilA))) skipM)
    (seqM (setM 4 (lstM (consA (opM ixF (opM ixF (nameM 0) (constM (.int 1))) (nameM 1)) nilA)))
    (seqM (ifS (testM (opM gtF (nameM 3) (constM (.int 0)))) (setM 4 (callM [false, false] (T ._law_alive) (consA (nameM 0) (consA (nameM 1) nilA)))) skipM)
    (seqM (setM 5 (opM ixF (nameM 4) (callM [true, false] (T ._law_next) (consA (nameM 2) (consA (bltM lenF (consA (nameM 4) nilA)) nilA)))))
    (retM (opM addF (tupM (consA (opM ixF (nameM 5) (constM (.int 0))) nilA)) (bltM tupleF (consA (c__law_item_1 T) nilA))))))))
noncomputable def c__law_chained_1 (T : Fn → Fun) : M Rv :=
    (lcM [7] (nameG 7) yesT (opM ixF (nameM 7) (constM (.int 0))) (iterM (nameM 0)))
noncomputable def c__law_chained_2 (T : Fn → Fun) : M Rv :=
    (lcM [9] (nameG 9) yesT (opM ixF (nameM 9) (constM (.int 0))) (iterM (nameM 6)))
noncomputable def l__law_chained_1 (T : Fn → Fun) : M Fl :=
    (forM (tupGn 2 (consG (nameG 3) (consG (nameG 6) nilG))) (wipeS [3, 6] (setM 2 (opM addF (nameM 2) (c__law_chained_2 T)))) (iterM (nameM 0)))
noncomputable def c__law_chained_3 (T : Fn → Fun) : M Rv :=
    (lcM [8] (nameG 8) (testM (opM (inOF true) (nameM 8) (nameM 1))) (nameM 8) (iterM (lstM (consA (constM (.str (S [114, 111, 119]))) (consA (constM (.str (S [99, 104, 97, 105, 110]))) (consA (constM (.str (S [115, 116, 114, 97, 110, 100, 115]))) nilA))))))
noncomputable def c__law_chained_4 (T : Fn → Fun) : M Rv :=
    (lcM [8] (nameG 8) (testM (opM (inOF true) (nameM 8) (nameM 2))) (nameM 8) (iterM (lstM (consA (constM (.str (S [101]))) (consA (constM (.str (S [101, 110, 100]))) (consA (constM (.str (S [116, 104, 101, 101, 110, 100]))) nilA))))))
noncomputable def c__law_chained_5 (T : Fn → Fun) : M Rv :=
    (lcM [8] (nameG 8) (testM (opM (inOF true) (nameM 8) (nameM 2))) (nameM 8) (iterM (lstM (consA (constM (.str (S [97, 98]))) (consA (constM (.str (S [109, 111, 114, 101]))) (consA (constM (.str (S [102, 117, 114, 116, 104, 101, 114, 115]))) nilA))))))
noncomputable def b__law_chained (T : Fn → Fun) : M Fl :=
    (seqM (setM 1 (c__law_chained_1 T))
    (seqM (wipeS [3] (setM 2 (lstM nilA)))
    (seqM (wipeS [3, 6] (l__law_chained_1 T))
    (seqM (setM 3 (opM ixF (c__law_chained_3 T) (constM (.int 0))))
    (seqM (setM 4 (c__law_chained_4 T))
    (seqM (setM 5 (c__law_chained_5 T))
    (retM (opM addF (nameM 0) (tupM (consA (tupM (consA (nameM 3) (consA (tupM (consA (tupM (consA (opM ixF (nameM 4) (constM (.int 0))) (consA (tupM nilA) nilA))) (consA (tupM (consA (opM ixF (nameM 5) (constM (.int 0))) (consA (tupM (consA (constM (.str (S numL))) (consA (nameM 3) nilA))) nilA))) nilA))) nilA))) nilA))))))))))
noncomputable def l__law_chain_1 (T : Fn → Fun) : M Fl :=
    (forM (nameG 3) (wipeS [3] (setM 2 (tupM (consA (opM ixF (nameM 5) (constM (.int 0))) (consA (opM subF (nameM 3) (constM (.int 3))) (consA (nameM 2) nilA)))))) (rng1M (consA (nameM 1) nilA)))
noncomputable def b__law_chain (T : Fn → Fun) : M Fl :=
    (seqM (asgM (tupGn 2 (consG (nameG 4) (consG (nameG 5) nilG))) (opM ixF (opM ixF (nameM 0) (negM (constM (.int 1)))) (constM (.int 1))))
    (seqM (setM 2 (tupM (consA (opM ixF (nameM 4) (constM (.int 0))) nilA)))
    (seqM (wipeS [3] (l__law_chain_1 T))
    (retM (nameM 2)))))
noncomputable def l_law_1 (T : Fn → Fun) : M Fl :=
    (forM (nameG 9) (wipeS [9] (ifS (notT (testM (callM [false, false] (T ._law_alike) (consA (callM [false, false, false] (T .read_value) (consA (nameM 1) (consA (nameM 5) (consA (nameM 8) nilA)))) (consA (nameM 6) nilA))))) (retM (constM (.bl false))) skipM)) (rng1M (consA (constM (.int 2)) nilA)))
noncomputable def l_law_2 (T : Fn → Fun) : M Fl :=
    (forM (nameG 11) (wipeS [11] (ifS (notT (testM (callM [false, false] (T ._law_alike) (consA (callM [false, false, false] (T .read_value) (consA (nameM 1) (consA (constM (.str (S numL))) (consA (bltM strF (consA (nameM 11) nilA)) nilA)))) (consA (nameM 11) nilA))))) (retM (constM (.bl false))) skipM)) (iterM (lstM (consA (nameM 10) (consA (negM (nameM 10)) nilA)))))
noncomputable def l_law_3 (T : Fn → Fun) : M Fl :=
    (forM (nameG 3) (wipeS [3, 4, 5, 6, 7, 8, 9, 10, 11] (seqM (setM 4 (callM [false] (T ._law_dig) (consA (callM [false, false] (T ._law_cell) (consA (nameM 0) (consA (nameM 3) nilA))) nilA)))
    (seqM (setM 5 (opM ixF (opM addF (bltM listF2 (consA (opM ixF (nameM 2) (constM (.int 1))) nilA)) (lstM (consA (constM (.str (S numL))) nilA))) (callM [true, false] (T ._law_next) (consA (nameM 4) (consA (opM addF (bltM lenF (consA (opM ixF (nameM 2) (constM (.int 1))) nilA)) (constM (.int 1))) nilA)))))
    (seqM (setM 6 (callM [false, false, true, false] (T ._law_item) (consA (nameM 2) (consA (nameM 5) (consA (nameM 4) (consA (callM [true, false] (T ._law_next) (consA (nameM 4) (consA (constM (.int 4)) nilA))) nilA))))))
    (seqM (setM 7 (callM [true, false] (T ._law_next) (consA (nameM 4) (consA (constM (.int 30)) nilA))))
    (seqM (ifS (orT (testM (opM eqOF2 (callM [true, false] (T ._law_next) (consA (nameM 4) (consA (constM (.int 4)) nilA))) (constM (.int 0)))) (testM (opM gtF (bltM lenF (consA (callM [false] (T ._law_value_text) (consA (nameM 6) nilA)) nilA)) (constM (.int 4000))))) (asgM (tupGn 2 (consG (nameG 5) (consG (nameG 6) nilG))) (tupM (consA (opM ixF (opM ixF (nameM 1) (negM (constM (.int 1)))) (constM (.int 0))) (consA (callM [false, false] (T ._law_chain) (consA (nameM 1) (consA (nameM 7) nilA))) nilA)))) skipM)
    (seqM (setM 8 (callM [false] (T ._law_value_text) (consA (nameM 6) nilA)))
    (seqM (ifS (notT (testM (callM [false, false] (T ._law_alike) (consA (callM [false] (T .written_value) (consA (nameM 6) nilA)) (consA (nameM 8) nilA))))) (retM (constM (.bl false))) skipM)
    (seqM (wipeS [9] (l_law_1 T))
    (seqM (setM 10 (opM subF (opM subF (opM mulF2 (opM powF (constM (.int 10)) (constM (.int 60))) (opM powF (constM (.int 10)) (constM (.int 10)))) (constM (.int 1))) (callM [true, false] (T ._law_next) (consA (nameM 4) (consA (opM powF (constM (.int 10)) (constM (.int 12))) nilA)))))
    (wipeS [11] (l_law_2 T)))))))))))) (rng2M (consA (constM (.int 1)) (consA (bltM maxF (consA (constM (.int 9)) (consA (bltM minF (consA (constM (.int 63)) (consA (bltM lenF (consA (nameM 0) nilA)) nilA))) nilA))) nilA))))
noncomputable def b_law (T : Fn → Fun) : M Fl :=
    (seqM (setM 1 (callM [false] (T ._law_chained) (consA (callM [true] (T ._law_volume) (consA (callM [false] (T ._law_dig) (consA (callM [false, false] (T ._law_cell) (consA (nameM 0) (consA (constM (.int 0)) nilA))) nilA)) nilA)) nilA)))
    (seqM (setM 2 (tupM (consA (nameM 1) (consA (callM [false] (T ._law_rounds) (consA (nameM 1) nilA)) nilA))))
    (seqM (wipeS [3, 4, 5, 6, 7, 8, 9, 10, 11] (l_law_3 T))
    (retM (constM (.bl true))))))
noncomputable def T : Nat → Fn → Fun
  | 0, _ => fun _ => .stuck
  | n + 1, .is_whole => fnRun 1 (b_is_whole (T n))
  | n + 1, .all_makes => fnRun 4 (b_all_makes (T n))
  | n + 1, .is_value => fnRun 5 (b_is_value (T n))
  | n + 1, .are_values => fnRun 5 (b_are_values (T n))
  | n + 1, .in_brackets => fnRun 2 (b_in_brackets (T n))
  | n + 1, .written_value => fnRun 2 (b_written_value (T n))
  | n + 1, .Strip___init__ => fnRun 2 (b_Strip___init__ (T n))
  | n + 1, .Strip_is_through => fnRun 1 (b_Strip_is_through (T n))
  | n + 1, .Strip_meets => fnRun 2 (b_Strip_meets (T n))
  | n + 1, .Strip_passes => fnRun 2 (b_Strip_passes (T n))
  | n + 1, .Strip_must_pass => fnRun 2 (b_Strip_must_pass (T n))
  | n + 1, .Strip_stretch_of => fnRun 3 (b_Strip_stretch_of (T n))
  | n + 1, .Strip_number_next => fnRun 3 (b_Strip_number_next (T n))
  | n + 1, .Strip_ends_well => fnRun 1 (b_Strip_ends_well (T n))
  | n + 1, .value_read => fnRun 4 (b_value_read (T n))
  | n + 1, .strip_of => fnRun 1 (b_strip_of (T n))
  | n + 1, .read_value => fnRun 5 (b_read_value (T n))
  | n + 1, ._law_cell => fnRun 2 (b__law_cell (T n))
  | n + 1, ._law_dig => fnRun 1 (b__law_dig (T n))
  | n + 1, ._law_next => fnRun 5 (b__law_next (T n))
  | n + 1, ._law_calls => fnRun 10 (b__law_calls (T n))
  | n + 1, ._law_volume => fnRun 12 (b__law_volume (T n))
  | n + 1, ._law_rounds => fnRun 8 (b__law_rounds (T n))
  | n + 1, ._law_all_makes => fnRun 4 (b__law_all_makes (T n))
  | n + 1, ._law_alive => fnRun 5 (b__law_alive (T n))
  | n + 1, ._law_alike => fnRun 4 (b__law_alike (T n))
  | n + 1, ._law_bracketed => fnRun 2 (b__law_bracketed (T n))
  | n + 1, ._law_value_text => fnRun 2 (b__law_value_text (T n))
  | n + 1, ._law_number => fnRun 2 (b__law_number (T n))
  | n + 1, ._law_item => fnRun 7 (b__law_item (T n))
  | n + 1, ._law_chained => fnRun 10 (b__law_chained (T n))
  | n + 1, ._law_chain => fnRun 6 (b__law_chain (T n))
  | n + 1, .law => fnRun 12 (b_law (T n))
end Sc.Law

set_option linter.all false
set_option autoImplicit false
set_option maxRecDepth 100000
set_option maxHeartbeats 400000
namespace Sc.Law
open PySem PySem.Spec PyProof.Rows L2 Sc Hd
structure Tx (K : PySem.W.Frag) (mg : Str → Option Value) : Prop where
  b_all : mg "all" = none
  b_bool : mg "bool" = none
  b_int : mg "int" = none
  b_isinstance : mg "isinstance" = none
  b_len : mg "len" = none
  b_list : mg "list" = none
  b_max : mg "max" = none
  b_min : mg "min" = none
  b_range : mg "range" = none
  b_str : mg "str" = none
  b_tuple : mg "tuple" = none
  b_zip : mg "zip" = none
  c_NUM : ∃ t, mg "NUM" = some (.str "num" t)
  c_LETTERS : ∃ t, mg "LETTERS" = some (.str "abcdefghijklmnopqrstuvwxyz" t)
  c_FIGURES : ∃ t, mg "FIGURES" = some (.str "0123456789" t)
  c_MOST_FIGURES : ∃ t, mg "MOST_FIGURES" = some (.int 70 t)
  c_DEEPEST_VALUE : ∃ t, mg "DEEPEST_VALUE" = some (.int 30 t)
  g_is_whole : mg "is_whole" = some (.ref (He.ga K "is_whole"))
  g_all_makes : mg "all_makes" = some (.ref (He.ga K "all_makes"))
  g_is_value : mg "is_value" = some (.ref (He.ga K "is_value"))
  g_are_values : mg "are_values" = some (.ref (He.ga K "are_values"))
  g_in_brackets : mg "in_brackets" = some (.ref (He.ga K "in_brackets"))
  g_written_value : mg "written_value" = some (.ref (He.ga K "written_value"))
  me_Strip___init__ : Meth K (He.ga K "Strip") "__init__" (He.ma K (He.ga K "Strip") "__init__")
  me_Strip_is_through : Meth K (He.ga K "Strip") "is_through" (He.ma K (He.ga K "Strip") "is_through")
  me_Strip_meets : Meth K (He.ga K "Strip") "meets" (He.ma K (He.ga K "Strip") "meets")
  me_Strip_passes : Meth K (He.ga K "Strip") "passes" (He.ma K (He.ga K "Strip") "passes")
  me_Strip_must_pass : Meth K (He.ga K "Strip") "must_pass" (He.ma K (He.ga K "Strip") "must_pass")
  me_Strip_stretch_of : Meth K (He.ga K "Strip") "stretch_of" (He.ma K (He.ga K "Strip") "stretch_of")
  me_Strip_number_next : Meth K (He.ga K "Strip") "number_next" (He.ma K (He.ga K "Strip") "number_next")
  me_Strip_ends_well : Meth K (He.ga K "Strip") "ends_well" (He.ma K (He.ga K "Strip") "ends_well")
  g_value_read : mg "value_read" = some (.ref (He.ga K "value_read"))
  g_strip_of : mg "strip_of" = some (.ref (He.ga K "strip_of"))
  g_read_value : mg "read_value" = some (.ref (He.ga K "read_value"))
  g__law_cell : mg "_law_cell" = some (.ref (He.ga K "_law_cell"))
  g__law_dig : mg "_law_dig" = some (.ref (He.ga K "_law_dig"))
  g__law_next : mg "_law_next" = some (.ref (He.ga K "_law_next"))
  g__law_calls : mg "_law_calls" = some (.ref (He.ga K "_law_calls"))
  g__law_volume : mg "_law_volume" = some (.ref (He.ga K "_law_volume"))
  g__law_rounds : mg "_law_rounds" = some (.ref (He.ga K "_law_rounds"))
  g__law_all_makes : mg "_law_all_makes" = some (.ref (He.ga K "_law_all_makes"))
  g__law_alive : mg "_law_alive" = some (.ref (He.ga K "_law_alive"))
  g__law_alike : mg "_law_alike" = some (.ref (He.ga K "_law_alike"))
  g__law_bracketed : mg "_law_bracketed" = some (.ref (He.ga K "_law_bracketed"))
  g__law_value_text : mg "_law_value_text" = some (.ref (He.ga K "_law_value_text"))
  g__law_number : mg "_law_number" = some (.ref (He.ga K "_law_number"))
  g__law_item : mg "_law_item" = some (.ref (He.ga K "_law_item"))
  g__law_chained : mg "_law_chained" = some (.ref (He.ga K "_law_chained"))
  g__law_chain : mg "_law_chain" = some (.ref (He.ga K "_law_chain"))
  g_law : mg "law" = some (.ref (He.ga K "law"))
  g_Strip : mg "Strip" = some (.ref (He.ga K "Strip"))
  cls_Strip : Cls K (He.ga K "Strip")
  mk_Strip : Mk K (He.ga K "Strip") (He.ma K (He.ga K "Strip") "__init__")
  na_Strip_signs : NoAttr K (He.ga K "Strip") "signs"
  na_Strip_spot : NoAttr K (He.ga K "Strip") "spot"
  g_CourtError : mg "CourtError" = some (.ref (He.ga K "CourtError"))
  x_CourtError : PySem.W.excIn K (He.ga K "CourtError") He.veBase "ValueError.__new__" = true
  xk_CourtError : PySem.W.keepIn K (.ref (He.ga K "CourtError")) = true
  xs_CourtError : PySem.W.subIn K (.ref (He.ga K "CourtError")) (.type "BaseException") = some true
  xt_CourtError : PySem.W.typeIn K (.ref (He.ga K "CourtError")) = some (.type "type")
  g_NoText : mg "NoText" = some (.ref (He.ga K "NoText"))
  x_NoText : PySem.W.excIn K (He.ga K "NoText") He.veBase "ValueError.__new__" = true
  xk_NoText : PySem.W.keepIn K (.ref (He.ga K "NoText")) = true
  xs_NoText : PySem.W.subIn K (.ref (He.ga K "NoText")) (.type "BaseException") = some true
  xt_NoText : PySem.W.typeIn K (.ref (He.ga K "NoText")) = some (.type "type")
structure Lv (P : Program) (w : World) (K : PySem.W.Frag) (mg : Str → Option Value) (base : Heap) (k n : Nat) : Prop where
  d_is_whole : Def P w K mg base k (He.ga K "is_whole") 1 (T n .is_whole)
  d_all_makes : Def P w K mg base k (He.ga K "all_makes") 2 (T n .all_makes)
  d_is_value : Def P w K mg base k (He.ga K "is_value") 3 (T n .is_value)
  d_are_values : Def P w K mg base k (He.ga K "are_values") 3 (T n .are_values)
  d_in_brackets : Def P w K mg base k (He.ga K "in_brackets") 2 (T n .in_brackets)
  d_written_value : Def P w K mg base k (He.ga K "written_value") 1 (T n .written_value)
  d_Strip___init__ : Def P w K mg base k (He.ma K (He.ga K "Strip") "__init__") 2 (T n .Strip___init__)
  d_Strip_is_through : Def P w K mg base k (He.ma K (He.ga K "Strip") "is_through") 1 (T n .Strip_is_through)
  d_Strip_meets : Def P w K mg base k (He.ma K (He.ga K "Strip") "meets") 2 (T n .Strip_meets)
  d_Strip_passes : Def P w K mg base k (He.ma K (He.ga K "Strip") "passes") 2 (T n .Strip_passes)
  d_Strip_must_pass : Def P w K mg base k (He.ma K (He.ga K "Strip") "must_pass") 2 (T n .Strip_must_pass)
  d_Strip_stretch_of : Def P w K mg base k (He.ma K (He.ga K "Strip") "stretch_of") 2 (T n .Strip_stretch_of)
  d_Strip_number_next : Def P w K mg base k (He.ma K (He.ga K "Strip") "number_next") 1 (T n .Strip_number_next)
  d_Strip_ends_well : Def P w K mg base k (He.ma K (He.ga K "Strip") "ends_well") 1 (T n .Strip_ends_well)
  d_value_read : Def P w K mg base k (He.ga K "value_read") 2 (T n .value_read)
  d_strip_of : Def P w K mg base k (He.ga K "strip_of") 1 (T n .strip_of)
  d_read_value : Def P w K mg base k (He.ga K "read_value") 3 (T n .read_value)
  d__law_cell : Def P w K mg base k (He.ga K "_law_cell") 2 (T n ._law_cell)
  d__law_dig : Def P w K mg base k (He.ga K "_law_dig") 1 (T n ._law_dig)
  d__law_next : Def P w K mg base k (He.ga K "_law_next") 2 (T n ._law_next)
  d__law_calls : Def P w K mg base k (He.ga K "_law_calls") 2 (T n ._law_calls)
  d__law_volume : Def P w K mg base k (He.ga K "_law_volume") 1 (T n ._law_volume)
  d__law_rounds : Def P w K mg base k (He.ga K "_law_rounds") 1 (T n ._law_rounds)
  d__law_all_makes : Def P w K mg base k (He.ga K "_law_all_makes") 2 (T n ._law_all_makes)
  d__law_alive : Def P w K mg base k (He.ga K "_law_alive") 2 (T n ._law_alive)
  d__law_alike : Def P w K mg base k (He.ga K "_law_alike") 2 (T n ._law_alike)
  d__law_bracketed : Def P w K mg base k (He.ga K "_law_bracketed") 2 (T n ._law_bracketed)
  d__law_value_text : Def P w K mg base k (He.ga K "_law_value_text") 1 (T n ._law_value_text)
  d__law_number : Def P w K mg base k (He.ga K "_law_number") 1 (T n ._law_number)
  d__law_item : Def P w K mg base k (He.ga K "_law_item") 4 (T n ._law_item)
  d__law_chained : Def P w K mg base k (He.ga K "_law_chained") 1 (T n ._law_chained)
  d__law_chain : Def P w K mg base k (He.ga K "_law_chain") 2 (T n ._law_chain)
  d_law : Def P w K mg base k (He.ga K "law") 1 (T n .law)
def N_is_whole : List Str := ["thing"]
def P_is_whole : List Str := ["thing"]
theorem sc_is_whole : FnScope N_is_whole P_is_whole (defScope (topS 4)) := ⟨rfl, rfl, rfl, by decide +kernel, rfl, by decide +kernel, by decide +kernel⟩
def N_all_makes : List Str := ["book", "kind", "name", "makes"]
def P_all_makes : List Str := ["book", "kind"]
theorem sc_all_makes : FnScope N_all_makes P_all_makes (defScope (topS 7)) := ⟨rfl, rfl, rfl, by decide +kernel, rfl, by decide +kernel, by decide +kernel⟩
def N_is_value : List Str := ["book", "kind", "thing", "make", "fields"]
def P_is_value : List Str := ["book", "kind", "thing"]
theorem sc_is_value : FnScope N_is_value P_is_value (defScope (topS 9)) := ⟨rfl, rfl, rfl, by decide +kernel, rfl, by decide +kernel, by decide +kernel⟩
def N_are_values : List Str := ["book", "fields", "parts", "field", "part"]
def P_are_values : List Str := ["book", "fields", "parts"]
theorem sc_are_values : FnScope N_are_values P_are_values (defScope (topS 10)) := ⟨rfl, rfl, rfl, by decide +kernel, rfl, by decide +kernel, by decide +kernel⟩
def N_in_brackets : List Str := ["name", "parts"]
def P_in_brackets : List Str := ["name", "parts"]
theorem sc_in_brackets : FnScope N_in_brackets P_in_brackets (defScope (topS 16)) := ⟨rfl, rfl, rfl, by decide +kernel, rfl, by decide +kernel, by decide +kernel⟩
def N_written_value : List Str := ["value", "part"]
def P_written_value : List Str := ["value"]
theorem sc_written_value : FnScope N_written_value P_written_value (defScope (topS 17)) := ⟨rfl, rfl, rfl, by decide +kernel, rfl, by decide +kernel, by decide +kernel⟩
def N_Strip___init__ : List Str := ["self", "text"]
def P_Strip___init__ : List Str := ["self", "text"]
theorem sc_Strip___init__ : FnScope N_Strip___init__ P_Strip___init__ (defScope (L2.inClass (topS 18) 0)) := ⟨rfl, rfl, rfl, by decide +kernel, rfl, by decide +kernel, by decide +kernel⟩
def N_Strip_is_through : List Str := ["self"]
def P_Strip_is_through : List Str := ["self"]
theorem sc_Strip_is_through : FnScope N_Strip_is_through P_Strip_is_through (defScope (L2.inClass (topS 18) 1)) := ⟨rfl, rfl, rfl, by decide +kernel, rfl, by decide +kernel, by decide +kernel⟩
def N_Strip_meets : List Str := ["self", "some"]
def P_Strip_meets : List Str := ["self", "some"]
theorem sc_Strip_meets : FnScope N_Strip_meets P_Strip_meets (defScope (L2.inClass (topS 18) 2)) := ⟨rfl, rfl, rfl, by decide +kernel, rfl, by decide +kernel, by decide +kernel⟩
def N_Strip_passes : List Str := ["self", "word"]
def P_Strip_passes : List Str := ["self", "word"]
theorem sc_Strip_passes : FnScope N_Strip_passes P_Strip_passes (defScope (L2.inClass (topS 18) 3)) := ⟨rfl, rfl, rfl, by decide +kernel, rfl, by decide +kernel, by decide +kernel⟩
def N_Strip_must_pass : List Str := ["self", "word"]
def P_Strip_must_pass : List Str := ["self", "word"]
theorem sc_Strip_must_pass : FnScope N_Strip_must_pass P_Strip_must_pass (defScope (L2.inClass (topS 18) 4)) := ⟨rfl, rfl, rfl, by decide +kernel, rfl, by decide +kernel, by decide +kernel⟩
def N_Strip_stretch_of : List Str := ["self", "some", "start"]
def P_Strip_stretch_of : List Str := ["self", "some"]
theorem sc_Strip_stretch_of : FnScope N_Strip_stretch_of P_Strip_stretch_of (defScope (L2.inClass (topS 18) 5)) := ⟨rfl, rfl, rfl, by decide +kernel, rfl, by decide +kernel, by decide +kernel⟩
def N_Strip_number_next : List Str := ["self", "below", "figures"]
def P_Strip_number_next : List Str := ["self"]
theorem sc_Strip_number_next : FnScope N_Strip_number_next P_Strip_number_next (defScope (L2.inClass (topS 18) 6)) := ⟨rfl, rfl, rfl, by decide +kernel, rfl, by decide +kernel, by decide +kernel⟩
def N_Strip_ends_well : List Str := ["self"]
def P_Strip_ends_well : List Str := ["self"]
theorem sc_Strip_ends_well : FnScope N_Strip_ends_well P_Strip_ends_well (defScope (L2.inClass (topS 18) 7)) := ⟨rfl, rfl, rfl, by decide +kernel, rfl, by decide +kernel, by decide +kernel⟩
def N_value_read : List Str := ["strip", "room", "name", "parts"]
def P_value_read : List Str := ["strip", "room"]
theorem sc_value_read : FnScope N_value_read P_value_read (defScope (topS 19)) := ⟨rfl, rfl, rfl, by decide +kernel, rfl, by decide +kernel, by decide +kernel⟩
def N_strip_of : List Str := ["thing"]
def P_strip_of : List Str := ["thing"]
theorem sc_strip_of : FnScope N_strip_of P_strip_of (defScope (topS 20)) := ⟨rfl, rfl, rfl, by decide +kernel, rfl, by decide +kernel, by decide +kernel⟩
def N_read_value : List Str := ["book", "kind", "thing", "strip", "value"]
def P_read_value : List Str := ["book", "kind", "thing"]
theorem sc_read_value : FnScope N_read_value P_read_value (defScope (topS 21)) := ⟨rfl, rfl, rfl, by decide +kernel, rfl, by decide +kernel, by decide +kernel⟩
def N__law_cell : List Str := ["script", "k"]
def P__law_cell : List Str := ["script", "k"]
theorem sc__law_cell : FnScope N__law_cell P__law_cell (defScope (topS 23)) := ⟨rfl, rfl, rfl, by decide +kernel, rfl, by decide +kernel, by decide +kernel⟩
def N__law_dig : List Str := ["cell"]
def P__law_dig : List Str := ["cell"]
theorem sc__law_dig : FnScope N__law_dig P__law_dig (defScope (topS 24)) := ⟨rfl, rfl, rfl, by decide +kernel, rfl, by decide +kernel, by decide +kernel⟩
def N__law_next : List Str := ["pool", "base", "near", "stir", "digit"]
def P__law_next : List Str := ["pool", "base"]
theorem sc__law_next : FnScope N__law_next P__law_next (defScope (topS 25)) := ⟨rfl, rfl, rfl, by decide +kernel, rfl, by decide +kernel, by decide +kernel⟩
def N__law_calls : List Str := ["pool", "many", "letters", "base", "at", "first", "tails", "names", "k", "name"]
def P__law_calls : List Str := ["pool", "many"]
theorem sc__law_calls : FnScope N__law_calls P__law_calls (defScope (topS 26)) := ⟨rfl, rfl, rfl, by decide +kernel, rfl, by decide +kernel, by decide +kernel⟩
def N__law_volume : List Str := ["pool", "many", "kinds", "names", "book", "kind", "some", "k", "name", "count", "fields", "at"]
def P__law_volume : List Str := ["pool"]
theorem sc__law_volume : FnScope N__law_volume P__law_volume (defScope (topS 27)) := ⟨rfl, rfl, rfl, by decide +kernel, rfl, by decide +kernel, by decide +kernel⟩
def N__law_rounds : List Str := ["book", "plain", "turn", "had", "kind", "makes", "make", "field"]
def P__law_rounds : List Str := ["book"]
theorem sc__law_rounds : FnScope N__law_rounds P__law_rounds (defScope (topS 28)) := ⟨rfl, rfl, rfl, by decide +kernel, rfl, by decide +kernel, by decide +kernel⟩
def N__law_all_makes : List Str := ["world", "kind", "name", "makes"]
def P__law_all_makes : List Str := ["world", "kind"]
theorem sc__law_all_makes : FnScope N__law_all_makes P__law_all_makes (defScope (topS 29)) := ⟨rfl, rfl, rfl, by decide +kernel, rfl, by decide +kernel, by decide +kernel⟩
def N__law_alive : List Str := ["world", "kind", "found", "make", "field"]
def P__law_alive : List Str := ["world", "kind"]
theorem sc__law_alive : FnScope N__law_alive P__law_alive (defScope (topS 30)) := ⟨rfl, rfl, rfl, by decide +kernel, rfl, by decide +kernel, by decide +kernel⟩
def N__law_alike : List Str := ["found", "due", "one", "other"]
def P__law_alike : List Str := ["found", "due"]
theorem sc__law_alike : FnScope N__law_alike P__law_alike (defScope (topS 31)) := ⟨rfl, rfl, rfl, by decide +kernel, rfl, by decide +kernel, by decide +kernel⟩
def N__law_bracketed : List Str := ["name", "parts"]
def P__law_bracketed : List Str := ["name", "parts"]
theorem sc__law_bracketed : FnScope N__law_bracketed P__law_bracketed (defScope (topS 32)) := ⟨rfl, rfl, rfl, by decide +kernel, rfl, by decide +kernel, by decide +kernel⟩
def N__law_value_text : List Str := ["value", "part"]
def P__law_value_text : List Str := ["value"]
theorem sc__law_value_text : FnScope N__law_value_text P__law_value_text (defScope (topS 33)) := ⟨rfl, rfl, rfl, by decide +kernel, rfl, by decide +kernel, by decide +kernel⟩
def N__law_number : List Str := ["pool", "way"]
def P__law_number : List Str := ["pool"]
theorem sc__law_number : FnScope N__law_number P__law_number (defScope (topS 34)) := ⟨rfl, rfl, rfl, by decide +kernel, rfl, by decide +kernel, by decide +kernel⟩
def N__law_item : List Str := ["world", "kind", "pool", "deep", "makes", "make", "field"]
def P__law_item : List Str := ["world", "kind", "pool", "deep"]
theorem sc__law_item : FnScope N__law_item P__law_item (defScope (topS 35)) := ⟨rfl, rfl, rfl, by decide +kernel, rfl, by decide +kernel, by decide +kernel⟩
def N__law_chained : List Str := ["book", "kinds", "names", "kind", "ends", "more", "makes", "row", "word", "make"]
def P__law_chained : List Str := ["book"]
theorem sc__law_chained : FnScope N__law_chained P__law_chained (defScope (topS 36)) := ⟨rfl, rfl, rfl, by decide +kernel, rfl, by decide +kernel, by decide +kernel⟩
def N__law_chain : List Str := ["book", "long", "value", "k", "end", "more"]
def P__law_chain : List Str := ["book", "long"]
theorem sc__law_chain : FnScope N__law_chain P__law_chain (defScope (topS 37)) := ⟨rfl, rfl, rfl, by decide +kernel, rfl, by decide +kernel, by decide +kernel⟩
def N_law : List Str := ["script", "book", "world", "k", "pool", "kind", "value", "long", "text", "turn", "great", "number"]
def P_law : List Str := ["script"]
theorem sc_law : FnScope N_law P_law (defScope (topS 38)) := ⟨rfl, rfl, rfl, by decide +kernel, rfl, by decide +kernel, by decide +kernel⟩
section
variable {P : Program} {w : World} {K : PySem.W.Frag} {mg : Str → Option Value} {base : Heap}
theorem o_is_whole {n : Nat} {fd : FuncData} (t : Tx K mg) (L : Lv P w K mg base (2 * n) n) (F : FunD K "is_whole" "is_whole" (defArgs (topS 4)) (defBody (topS 4)) (defScope (topS 4)) [] [] (He.ga K "is_whole") fd) : FnOk P w K mg base (L2.CX P w) (2 * (n + 1)) (He.ga K "is_whole") fd P_is_whole (spOf K 1 (T (n + 1) .is_whole)) :=
  def_ok (k := 2 * n + 1) (N := N_is_whole) (ps := P_is_whole) F sc_is_whole (by decide) fun cdv A outer s H E B W hr tk =>
    have nd := sc_is_whole.nd
    have hr1 := hr.mono (Nat.le_succ (2 * n))
    (sb_one (ss_ret (se_and (se_isi (se_name (pv 0)) rfl t.b_isinstance bt_isinstance rfl t.b_int bt_int) (se_one (se_not (se_isi (se_name (pv 0)) rfl t.b_isinstance bt_isinstance rfl t.b_bool bt_bool))))))
theorem o_all_makes {n : Nat} {fd : FuncData} (t : Tx K mg) (L : Lv P w K mg base (2 * n) n) (F : FunD K "all_makes" "all_makes" (defArgs (topS 7)) (defBody (topS 7)) (defScope (topS 7)) [] [] (He.ga K "all_makes") fd) : FnOk P w K mg base (L2.CX P w) (2 * (n + 1)) (He.ga K "all_makes") fd P_all_makes (spOf K 2 (T (n + 1) .all_makes)) :=
  def_ok (k := 2 * n + 1) (N := N_all_makes) (ps := P_all_makes) F sc_all_makes (by decide) fun cdv A outer s H E B W hr tk =>
    have nd := sc_all_makes.nd
    have hr1 := hr.mono (Nat.le_succ (2 * n))
    (sb_cons (ss_wipe (ss_for (passes_of rfl) rfl (si_iter (se_name (pv 0))) (sg_tup rfl (sgs_cons (sg_name nd rfl (by first | exact .inl rfl | exact .inr rfl)) (sgs_cons (sg_name nd rfl (by first | exact .inl rfl | exact .inr rfl)) sgs_nil))) (sb_wipe (sb_one (ss_if (st_cmp (op_eq2 (hu64 hr)) opf_eq2 (se_name (pv 2)) (se_name (pv 1)) rfl) (sb_one (ss_ret (se_name (pv 3)))) sb_nil)))))
    (sb_one (ss_ret (se_tup sa_nil))))
theorem o_is_value {n : Nat} {fd : FuncData} (t : Tx K mg) (L : Lv P w K mg base (2 * n) n) (F : FunD K "is_value" "is_value" (defArgs (topS 9)) (defBody (topS 9)) (defScope (topS 9)) [] [] (He.ga K "is_value") fd) : FnOk P w K mg base (L2.CX P w) (2 * (n + 1)) (He.ga K "is_value") fd P_is_value (spOf K 3 (T (n + 1) .is_value)) :=
  def_ok (k := 2 * n + 1) (N := N_is_value) (ps := P_is_value) F sc_is_value (by decide) fun cdv A outer s H E B W hr tk =>
    have nd := sc_is_value.nd
    have hr1 := hr.mono (Nat.le_succ (2 * n))
    (sb_cons (ss_if (st_cmp (op_eq2 (hu64 hr)) opf_eq2 (se_name (pv 1)) (se_gstr2 t.c_NUM lit_numL rfl) rfl) (sb_one (ss_ret (se_call (md := [false]) L.d_is_whole t.g_is_whole hr1 tk rfl (sa_cons (se_name (pv 2)) sa_nil)))) sb_nil)
    (sb_cons (ss_if (st_pw (sw_or (st_not (st_val (se_isi (se_name (pv 2)) rfl t.b_isinstance bt_isinstance rfl t.b_tuple bt_tuple))) (sw_or1 (st_cmp (op_eq2 (hu64 hr)) opf_eq2 (se_blt call_lenAll bf_len rfl t.b_len bt_len (sa_cons (se_name (pv 2)) sa_nil)) (se_const pe_int rfl) rfl)))) (sb_one (ss_ret (se_const pe_bl rfl))) sb_nil)
    (sb_cons (ss_wipe (ss_for (passes_of rfl) rfl (si_iter (se_call (md := [false, false]) L.d_all_makes t.g_all_makes hr1 tk rfl (sa_cons (se_name (pv 0)) (sa_cons (se_name (pv 1)) sa_nil)))) (sg_tup rfl (sgs_cons (sg_name nd rfl (by first | exact .inl rfl | exact .inr rfl)) (sgs_cons (sg_name nd rfl (by first | exact .inl rfl | exact .inr rfl)) sgs_nil))) (sb_wipe (sb_one (ss_if (st_cmp (op_eq2 (hu64 hr)) opf_eq2 (se_name (pv 3)) (se_ix (hu1 hr) (se_name (pv 2)) (se_const pe_int rfl)) rfl) (sb_one (ss_ret (se_and (se_cmp (op_eq2 (hu64 hr)) opf_eq2 (se_blt call_lenAll bf_len rfl t.b_len bt_len (sa_cons (se_name (pv 2)) sa_nil)) (se_op op_addAll opf_add (se_blt call_lenAll bf_len rfl t.b_len bt_len (sa_cons (se_name (pv 4)) sa_nil)) (se_const pe_int rfl)) rfl) (se_one (se_call (md := [false, false, false]) L.d_are_values t.g_are_values hr1 tk rfl (sa_cons (se_name (pv 0)) (sa_cons (se_name (pv 4)) (sa_cons (se_slice (se_name (pv 2)) (so_some (se_const pe_int rfl)) so_none) sa_nil)))))))) sb_nil)))))
    (sb_one (ss_ret (se_const pe_bl rfl))))))
theorem o_are_values {n : Nat} {fd : FuncData} (t : Tx K mg) (L : Lv P w K mg base (2 * n) n) (F : FunD K "are_values" "are_values" (defArgs (topS 10)) (defBody (topS 10)) (defScope (topS 10)) [] [] (He.ga K "are_values") fd) : FnOk P w K mg base (L2.CX P w) (2 * (n + 1)) (He.ga K "are_values") fd P_are_values (spOf K 3 (T (n + 1) .are_values)) :=
  def_ok (k := 2 * n + 1) (N := N_are_values) (ps := P_are_values) F sc_are_values (by decide) fun cdv A outer s H E B W hr tk =>
    have nd := sc_are_values.nd
    have hr1 := hr.mono (Nat.le_succ (2 * n))
    (sb_one (ss_ret (se_blt (cr_all rfl) bf_all rfl t.b_all bt_all (sa_cons (se_lc rfl nd (si_zip rfl t.b_zip (sa_cons (se_name (pv 1)) (sa_cons (se_name (pv 2)) sa_nil))) (blkOk_by (own := [("field", 3), ("part", 4)]) (N := N_are_values) (sc := defScope (topS 10)) (by decide +kernel)) rfl (by decide) (fun _ _ _ _ _ => (sg_tup rfl (sgs_cons (sg_name nd rfl (by first | exact .inl rfl | exact .inr rfl)) (sgs_cons (sg_name nd rfl (by first | exact .inl rfl | exact .inr rfl)) sgs_nil)))) (fun _ _ _ _ _ => sts_nil) (fun _ _ _ _ _ => (se_call (md := [false, false, false]) L.d_is_value t.g_is_value hr1 takes0 rfl (sa_cons (se_name (pv 0)) (sa_cons (se_name (pv 3)) (sa_cons (se_name (pv 4)) sa_nil)))))) sa_nil))))
theorem o_in_brackets {n : Nat} {fd : FuncData} (t : Tx K mg) (L : Lv P w K mg base (2 * n) n) (F : FunD K "in_brackets" "in_brackets" (defArgs (topS 16)) (defBody (topS 16)) (defScope (topS 16)) [] [] (He.ga K "in_brackets") fd) : FnOk P w K mg base (L2.CX P w) (2 * (n + 1)) (He.ga K "in_brackets") fd P_in_brackets (spOf K 2 (T (n + 1) .in_brackets)) :=
  def_ok (k := 2 * n + 1) (N := N_in_brackets) (ps := P_in_brackets) F sc_in_brackets (by decide) fun cdv A outer s H E B W hr tk =>
    have nd := sc_in_brackets.nd
    have hr1 := hr.mono (Nat.le_succ (2 * n))
    (sb_cons (ss_if (st_cmp (op_eq2 (hu64 hr)) opf_eq2 (se_blt call_lenAll bf_len rfl t.b_len bt_len (sa_cons (se_name (pv 1)) sa_nil)) (se_const pe_int rfl) rfl) (sb_one (ss_ret (se_name (pv 0)))) sb_nil)
    (sb_one (ss_ret (se_op op_addAll opf_add (se_op op_addAll opf_add (se_op op_addAll opf_add (se_name (pv 0)) (se_const pe_str lit_1)) (se_strm PySem.F.slot_str_join PySem.F.type_str_join mt_join sf_join (se_const pe_str lit_2) (sa_cons (se_name (pv 1)) sa_nil))) (se_const pe_str lit_3)))))
theorem o_written_value {n : Nat} {fd : FuncData} (t : Tx K mg) (L : Lv P w K mg base (2 * n) n) (F : FunD K "written_value" "written_value" (defArgs (topS 17)) (defBody (topS 17)) (defScope (topS 17)) [] [] (He.ga K "written_value") fd) : FnOk P w K mg base (L2.CX P w) (2 * (n + 1)) (He.ga K "written_value") fd P_written_value (spOf K 1 (T (n + 1) .written_value)) :=
  def_ok (k := 2 * n + 1) (N := N_written_value) (ps := P_written_value) F sc_written_value (by decide) fun cdv A outer s H E B W hr tk =>
    have nd := sc_written_value.nd
    have hr1 := hr.mono (Nat.le_succ (2 * n))
    (sb_cons (ss_if (st_not (st_val (se_isi (se_name (pv 0)) rfl t.b_isinstance bt_isinstance rfl t.b_tuple bt_tuple))) (sb_one (ss_ret (se_bty call_str_int bf_str rfl t.b_str bt_str (sa_cons (se_name (pv 0)) sa_nil)))) sb_nil)
    (sb_one (ss_ret (se_call (md := [false, false]) L.d_in_brackets t.g_in_brackets hr1 tk rfl (sa_cons (se_ix (hu1 hr) (se_name (pv 0)) (se_const pe_int rfl)) (sa_cons (se_lc rfl nd (si_iter (se_slice (se_name (pv 0)) (so_some (se_const pe_int rfl)) so_none)) (blkOk_by (own := [("part", 1)]) (N := N_written_value) (sc := defScope (topS 17)) (by decide +kernel)) rfl (by decide) (fun _ _ _ _ _ => (sg_name nd rfl (by first | exact .inl rfl | exact .inr rfl))) (fun _ _ _ _ _ => sts_nil) (fun _ _ _ _ _ => (se_call (md := [false]) L.d_written_value t.g_written_value hr1 takes0 rfl (sa_cons (se_name (pv 1)) sa_nil)))) sa_nil))))))
theorem o_Strip___init__ {n : Nat} {fd : FuncData} (t : Tx K mg) (L : Lv P w K mg base (2 * n) n) (F : FunD K "__init__" "Strip.__init__" (defArgs (L2.inClass (topS 18) 0)) (defBody (L2.inClass (topS 18) 0)) (defScope (L2.inClass (topS 18) 0)) [] [] (He.ma K (He.ga K "Strip") "__init__") fd) : FnOk P w K mg base (L2.CX P w) (2 * (n + 1)) (He.ma K (He.ga K "Strip") "__init__") fd P_Strip___init__ (spOf K 2 (T (n + 1) .Strip___init__)) :=
  def_ok (k := 2 * n + 1) (N := N_Strip___init__) (ps := P_Strip___init__) F sc_Strip___init__ (by decide) fun cdv A outer s H E B W hr tk =>
    have nd := sc_Strip___init__.nd
    have hr1 := hr.mono (Nat.le_succ (2 * n))
    (sb_cons (ss_putF (se_name (pv 1)) (pv 0) t.cls_Strip t.na_Strip_signs)
    (sb_one (ss_putF (se_const pe_int rfl) (pv 0) t.cls_Strip t.na_Strip_spot)))
theorem o_Strip_is_through {n : Nat} {fd : FuncData} (t : Tx K mg) (L : Lv P w K mg base (2 * n) n) (F : FunD K "is_through" "Strip.is_through" (defArgs (L2.inClass (topS 18) 1)) (defBody (L2.inClass (topS 18) 1)) (defScope (L2.inClass (topS 18) 1)) [] [] (He.ma K (He.ga K "Strip") "is_through") fd) : FnOk P w K mg base (L2.CX P w) (2 * (n + 1)) (He.ma K (He.ga K "Strip") "is_through") fd P_Strip_is_through (spOf K 1 (T (n + 1) .Strip_is_through)) :=
  def_ok (k := 2 * n + 1) (N := N_Strip_is_through) (ps := P_Strip_is_through) F sc_Strip_is_through (by decide) fun cdv A outer s H E B W hr tk =>
    have nd := sc_Strip_is_through.nd
    have hr1 := hr.mono (Nat.le_succ (2 * n))
    (sb_one (ss_ret (se_cmp (op_eq2 (hu64 hr)) opf_eq2 (se_fld (se_name (pv 0)) t.cls_Strip t.na_Strip_spot) (se_blt call_lenAll bf_len rfl t.b_len bt_len (sa_cons (se_fld (se_name (pv 0)) t.cls_Strip t.na_Strip_signs) sa_nil)) rfl)))
theorem o_Strip_meets {n : Nat} {fd : FuncData} (t : Tx K mg) (L : Lv P w K mg base (2 * n) n) (F : FunD K "meets" "Strip.meets" (defArgs (L2.inClass (topS 18) 2)) (defBody (L2.inClass (topS 18) 2)) (defScope (L2.inClass (topS 18) 2)) [] [] (He.ma K (He.ga K "Strip") "meets") fd) : FnOk P w K mg base (L2.CX P w) (2 * (n + 1)) (He.ma K (He.ga K "Strip") "meets") fd P_Strip_meets (spOf K 2 (T (n + 1) .Strip_meets)) :=
  def_ok (k := 2 * n + 1) (N := N_Strip_meets) (ps := P_Strip_meets) F sc_Strip_meets (by decide) fun cdv A outer s H E B W hr tk =>
    have nd := sc_Strip_meets.nd
    have hr1 := hr.mono (Nat.le_succ (2 * n))
    (sb_one (ss_ret (se_and (se_not (se_meth0 (pl := _) L.d_Strip_is_through t.me_Strip_is_through t.cls_Strip hr1 tk (se_name (pv 0)))) (se_one (se_cmp (op_inAll (hu65 hr)) opf_in (se_ix (hu1 hr) (se_fld (se_name (pv 0)) t.cls_Strip t.na_Strip_signs) (se_fld (se_name (pv 0)) t.cls_Strip t.na_Strip_spot)) (se_name (pv 1)) rfl)))))
theorem o_Strip_passes {n : Nat} {fd : FuncData} (t : Tx K mg) (L : Lv P w K mg base (2 * n) n) (F : FunD K "passes" "Strip.passes" (defArgs (L2.inClass (topS 18) 3)) (defBody (L2.inClass (topS 18) 3)) (defScope (L2.inClass (topS 18) 3)) [] [] (He.ma K (He.ga K "Strip") "passes") fd) : FnOk P w K mg base (L2.CX P w) (2 * (n + 1)) (He.ma K (He.ga K "Strip") "passes") fd P_Strip_passes (spOf K 2 (T (n + 1) .Strip_passes)) :=
  def_ok (k := 2 * n + 1) (N := N_Strip_passes) (ps := P_Strip_passes) F sc_Strip_passes (by decide) fun cdv A outer s H E B W hr tk =>
    have nd := sc_Strip_passes.nd
    have hr1 := hr.mono (Nat.le_succ (2 * n))
    (sb_cons (ss_if (st_not (st_val (se_strm PySem.F.slot_str_startswith PySem.F.type_str_startswith mt_startswith3 sf_starts (se_fld (se_name (pv 0)) t.cls_Strip t.na_Strip_signs) (sa_cons (se_name (pv 1)) (sa_cons (se_fld (se_name (pv 0)) t.cls_Strip t.na_Strip_spot) sa_nil))))) (sb_one (ss_ret (se_const pe_bl rfl))) sb_nil)
    (sb_cons (ss_putF (se_op op_addAll opf_add (se_fld (se_name (pv 0)) t.cls_Strip t.na_Strip_spot) (se_blt call_lenAll bf_len rfl t.b_len bt_len (sa_cons (se_name (pv 1)) sa_nil))) (pv 0) t.cls_Strip t.na_Strip_spot)
    (sb_one (ss_ret (se_const pe_bl rfl)))))
theorem o_Strip_must_pass {n : Nat} {fd : FuncData} (t : Tx K mg) (L : Lv P w K mg base (2 * n) n) (F : FunD K "must_pass" "Strip.must_pass" (defArgs (L2.inClass (topS 18) 4)) (defBody (L2.inClass (topS 18) 4)) (defScope (L2.inClass (topS 18) 4)) [] [] (He.ma K (He.ga K "Strip") "must_pass") fd) : FnOk P w K mg base (L2.CX P w) (2 * (n + 1)) (He.ma K (He.ga K "Strip") "must_pass") fd P_Strip_must_pass (spOf K 2 (T (n + 1) .Strip_must_pass)) :=
  def_ok (k := 2 * n + 1) (N := N_Strip_must_pass) (ps := P_Strip_must_pass) F sc_Strip_must_pass (by decide) fun cdv A outer s H E B W hr tk =>
    have nd := sc_Strip_must_pass.nd
    have hr1 := hr.mono (Nat.le_succ (2 * n))
    (sb_one (ss_if (st_not (st_val (se_meth (md := [false]) (pl := _) L.d_Strip_passes t.me_Strip_passes t.cls_Strip hr1 tk (se_name (pv 0)) (sa_cons (se_name (pv 1)) sa_nil)))) (sb_one (ss_raise rfl tk t.x_NoText t.g_NoText t.xk_NoText (raises_own t.xs_NoText t.xt_NoText) rfl)) sb_nil))
theorem o_Strip_stretch_of {n : Nat} {fd : FuncData} (t : Tx K mg) (L : Lv P w K mg base (2 * n) n) (F : FunD K "stretch_of" "Strip.stretch_of" (defArgs (L2.inClass (topS 18) 5)) (defBody (L2.inClass (topS 18) 5)) (defScope (L2.inClass (topS 18) 5)) [] [] (He.ma K (He.ga K "Strip") "stretch_of") fd) : FnOk P w K mg base (L2.CX P w) (2 * (n + 1)) (He.ma K (He.ga K "Strip") "stretch_of") fd P_Strip_stretch_of (spOf K 2 (T (n + 1) .Strip_stretch_of)) :=
  def_ok (k := 2 * n + 1) (N := N_Strip_stretch_of) (ps := P_Strip_stretch_of) F sc_Strip_stretch_of (by decide) fun cdv A outer s H E B W hr tk =>
    have nd := sc_Strip_stretch_of.nd
    have hr1 := hr.mono (Nat.le_succ (2 * n))
    (sb_cons (ss_set nd rfl (by first | exact .inl rfl | exact .inr rfl) (se_fld (se_name (pv 0)) t.cls_Strip t.na_Strip_spot))
    (sb_cons (ss_while (passes_of rfl) (st_val (se_meth (md := [false]) (pl := _) L.d_Strip_meets t.me_Strip_meets t.cls_Strip hr1 tk (se_name (pv 0)) (sa_cons (se_name (pv 1)) sa_nil))) (sb_one (ss_putF (se_op op_addAll opf_add (se_fld (se_name (pv 0)) t.cls_Strip t.na_Strip_spot) (se_const pe_int rfl)) (pv 0) t.cls_Strip t.na_Strip_spot)))
    (sb_cons (ss_if (st_cmp (op_eq2 (hu64 hr)) opf_eq2 (se_fld (se_name (pv 0)) t.cls_Strip t.na_Strip_spot) (se_name (pv 2)) rfl) (sb_one (ss_raise rfl tk t.x_NoText t.g_NoText t.xk_NoText (raises_own t.xs_NoText t.xt_NoText) rfl)) sb_nil)
    (sb_one (ss_ret (se_slice (se_fld (se_name (pv 0)) t.cls_Strip t.na_Strip_signs) (so_some (se_name (pv 2))) (so_some (se_fld (se_name (pv 0)) t.cls_Strip t.na_Strip_spot))))))))
theorem o_Strip_number_next {n : Nat} {fd : FuncData} (t : Tx K mg) (L : Lv P w K mg base (2 * n) n) (F : FunD K "number_next" "Strip.number_next" (defArgs (L2.inClass (topS 18) 6)) (defBody (L2.inClass (topS 18) 6)) (defScope (L2.inClass (topS 18) 6)) [] [] (He.ma K (He.ga K "Strip") "number_next") fd) : FnOk P w K mg base (L2.CX P w) (2 * (n + 1)) (He.ma K (He.ga K "Strip") "number_next") fd P_Strip_number_next (spOf K 1 (T (n + 1) .Strip_number_next)) :=
  def_ok (k := 2 * n + 1) (N := N_Strip_number_next) (ps := P_Strip_number_next) F sc_Strip_number_next (by decide) fun cdv A outer s H E B W hr tk =>
    have nd := sc_Strip_number_next.nd
    have hr1 := hr.mono (Nat.le_succ (2 * n))
    (sb_cons (ss_set nd rfl (by first | exact .inl rfl | exact .inr rfl) (se_meth (md := [false]) (pl := _) L.d_Strip_passes t.me_Strip_passes t.cls_Strip hr1 tk (se_name (pv 0)) (sa_cons (se_const pe_str lit_4) sa_nil)))
    (sb_cons (ss_set nd rfl (by first | exact .inl rfl | exact .inr rfl) (se_meth (md := [false]) (pl := _) L.d_Strip_stretch_of t.me_Strip_stretch_of t.cls_Strip hr1 tk (se_name (pv 0)) (sa_cons (se_gstr2 t.c_FIGURES lit_digL rfl) sa_nil)))
    (sb_cons (ss_if (st_cmp op_gt opf_gt (se_blt call_lenAll bf_len rfl t.b_len bt_len (sa_cons (se_name (pv 2)) sa_nil)) (se_gint t.c_MOST_FIGURES rfl) rfl) (sb_one (ss_raise rfl tk t.x_NoText t.g_NoText t.xk_NoText (raises_own t.xs_NoText t.xt_NoText) rfl)) sb_nil)
    (sb_cons (ss_if (st_val (se_name (pv 1))) (sb_one (ss_ret (se_op op_sub opf_sub (se_const pe_int rfl) (se_bty call_intAll bf_int rfl t.b_int bt_int (sa_cons (se_name (pv 2)) sa_nil))))) sb_nil)
    (sb_one (ss_ret (se_bty call_intAll bf_int rfl t.b_int bt_int (sa_cons (se_name (pv 2)) sa_nil))))))))
theorem o_Strip_ends_well {n : Nat} {fd : FuncData} (t : Tx K mg) (L : Lv P w K mg base (2 * n) n) (F : FunD K "ends_well" "Strip.ends_well" (defArgs (L2.inClass (topS 18) 7)) (defBody (L2.inClass (topS 18) 7)) (defScope (L2.inClass (topS 18) 7)) [] [] (He.ma K (He.ga K "Strip") "ends_well") fd) : FnOk P w K mg base (L2.CX P w) (2 * (n + 1)) (He.ma K (He.ga K "Strip") "ends_well") fd P_Strip_ends_well (spOf K 1 (T (n + 1) .Strip_ends_well)) :=
  def_ok (k := 2 * n + 1) (N := N_Strip_ends_well) (ps := P_Strip_ends_well) F sc_Strip_ends_well (by decide) fun cdv A outer s H E B W hr tk =>
    have nd := sc_Strip_ends_well.nd
    have hr1 := hr.mono (Nat.le_succ (2 * n))
    (sb_one (ss_if (st_not (st_val (se_meth0 (pl := _) L.d_Strip_is_through t.me_Strip_is_through t.cls_Strip hr1 tk (se_name (pv 0))))) (sb_one (ss_raise rfl tk t.x_NoText t.g_NoText t.xk_NoText (raises_own t.xs_NoText t.xt_NoText) rfl)) sb_nil))
theorem o_value_read {n : Nat} {fd : FuncData} (t : Tx K mg) (L : Lv P w K mg base (2 * n) n) (F : FunD K "value_read" "value_read" (defArgs (topS 19)) (defBody (topS 19)) (defScope (topS 19)) [] [] (He.ga K "value_read") fd) : FnOk P w K mg base (L2.CX P w) (2 * (n + 1)) (He.ga K "value_read") fd P_value_read (spOf K 2 (T (n + 1) .value_read)) :=
  def_ok (k := 2 * n + 1) (N := N_value_read) (ps := P_value_read) F sc_value_read (by decide) fun cdv A outer s H E B W hr tk =>
    have nd := sc_value_read.nd
    have hr1 := hr.mono (Nat.le_succ (2 * n))
    (sb_cons (ss_if (st_val (se_meth (md := [false]) (pl := _) L.d_Strip_meets t.me_Strip_meets t.cls_Strip hr1 tk (se_name (pv 0)) (sa_cons (se_op op_addAll opf_add (se_const pe_str lit_4) (se_gstr2 t.c_FIGURES lit_digL rfl)) sa_nil))) (sb_one (ss_ret (se_meth0 (pl := _) L.d_Strip_number_next t.me_Strip_number_next t.cls_Strip hr1 tk (se_name (pv 0))))) sb_nil)
    (sb_cons (ss_set nd rfl (by first | exact .inl rfl | exact .inr rfl) (se_meth (md := [false]) (pl := _) L.d_Strip_stretch_of t.me_Strip_stretch_of t.cls_Strip hr1 tk (se_name (pv 0)) (sa_cons (se_gstr2 t.c_LETTERS lit_azL rfl) sa_nil)))
    (sb_cons (ss_if (st_cmp (op_eq2 (hu64 hr)) opf_eq2 (se_name (pv 1)) (se_const pe_int rfl) rfl) (sb_one (ss_raise rfl tk t.x_NoText t.g_NoText t.xk_NoText (raises_own t.xs_NoText t.xt_NoText) rfl)) sb_nil)
    (sb_cons (ss_set nd rfl (by first | exact .inl rfl | exact .inr rfl) (se_lst sa_nil))
    (sb_cons (ss_if (st_val (se_meth (md := [false]) (pl := _) L.d_Strip_passes t.me_Strip_passes t.cls_Strip hr1 tk (se_name (pv 0)) (sa_cons (se_const pe_str lit_1) sa_nil))) (sb_cons (ss_expr (se_mut PySem.F.slot_list_append PySem.F.type_list_append mt_append mf_append (pv 3) (sa_cons (se_call (md := [true, false]) L.d_value_read t.g_value_read hr1 tk rfl (sa_cons (se_name (pv 0)) (sa_cons (se_op op_sub opf_sub (se_name (pv 1)) (se_const pe_int rfl)) sa_nil))) sa_nil)))
    (sb_cons (ss_while (passes_of rfl) (st_val (se_meth (md := [false]) (pl := _) L.d_Strip_passes t.me_Strip_passes t.cls_Strip hr1 tk (se_name (pv 0)) (sa_cons (se_const pe_str lit_2) sa_nil))) (sb_one (ss_expr (se_mut PySem.F.slot_list_append PySem.F.type_list_append mt_append mf_append (pv 3) (sa_cons (se_call (md := [true, false]) L.d_value_read t.g_value_read hr1 tk rfl (sa_cons (se_name (pv 0)) (sa_cons (se_op op_sub opf_sub (se_name (pv 1)) (se_const pe_int rfl)) sa_nil))) sa_nil)))))
    (sb_one (ss_expr (se_meth (md := [false]) (pl := _) L.d_Strip_must_pass t.me_Strip_must_pass t.cls_Strip hr1 tk (se_name (pv 0)) (sa_cons (se_const pe_str lit_3) sa_nil)))))) sb_nil)
    (sb_one (ss_ret (se_op op_addAll opf_add (se_tup (sa_cons (se_name (pv 2)) sa_nil)) (se_bty call_tuple_of bf_tuple rfl t.b_tuple bt_tuple (sa_cons (se_name (pv 3)) sa_nil))))))))))
theorem o_strip_of {n : Nat} {fd : FuncData} (t : Tx K mg) (L : Lv P w K mg base (2 * n) n) (F : FunD K "strip_of" "strip_of" (defArgs (topS 20)) (defBody (topS 20)) (defScope (topS 20)) [] [] (He.ga K "strip_of") fd) : FnOk P w K mg base (L2.CX P w) (2 * (n + 1)) (He.ga K "strip_of") fd P_strip_of (spOf K 1 (T (n + 1) .strip_of)) :=
  def_ok (k := 2 * n + 1) (N := N_strip_of) (ps := P_strip_of) F sc_strip_of (by decide) fun cdv A outer s H E B W hr tk =>
    have nd := sc_strip_of.nd
    have hr1 := hr.mono (Nat.le_succ (2 * n))
    (sb_cons (ss_if (st_not (st_val (se_isi (se_name (pv 0)) rfl t.b_isinstance bt_isinstance rfl t.b_str bt_str))) (sb_one (ss_raise rfl tk t.x_NoText t.g_NoText t.xk_NoText (raises_own t.xs_NoText t.xt_NoText) rfl)) sb_nil)
    (sb_one (ss_ret (se_new (md := [false]) L.d_Strip___init__ t.mk_Strip t.g_Strip hr rfl (sa_cons (se_name (pv 0)) sa_nil)))))
theorem o_read_value {n : Nat} {fd : FuncData} (t : Tx K mg) (L : Lv P w K mg base (2 * n) n) (F : FunD K "read_value" "read_value" (defArgs (topS 21)) (defBody (topS 21)) (defScope (topS 21)) [] [] (He.ga K "read_value") fd) : FnOk P w K mg base (L2.CX P w) (2 * (n + 1)) (He.ga K "read_value") fd P_read_value (spOf K 3 (T (n + 1) .read_value)) :=
  def_ok (k := 2 * n + 1) (N := N_read_value) (ps := P_read_value) F sc_read_value (by decide) fun cdv A outer s H E B W hr tk =>
    have nd := sc_read_value.nd
    have hr1 := hr.mono (Nat.le_succ (2 * n))
    (sb_cons (ss_set nd rfl (by first | exact .inl rfl | exact .inr rfl) (se_call (md := [false]) L.d_strip_of t.g_strip_of hr1 tk rfl (sa_cons (se_name (pv 2)) sa_nil)))
    (sb_cons (ss_set nd rfl (by first | exact .inl rfl | exact .inr rfl) (se_call (md := [true, false]) L.d_value_read t.g_value_read hr1 tk rfl (sa_cons (se_name (pv 3)) (sa_cons (se_gint t.c_DEEPEST_VALUE rfl) sa_nil))))
    (sb_cons (ss_expr (se_meth0 (pl := _) L.d_Strip_ends_well t.me_Strip_ends_well t.cls_Strip hr1 tk (se_name (pv 3))))
    (sb_cons (ss_if (st_pw (sw_or (st_not (st_val (se_call (md := [false, false, false]) L.d_is_value t.g_is_value hr1 tk rfl (sa_cons (se_name (pv 0)) (sa_cons (se_name (pv 1)) (sa_cons (se_name (pv 4)) sa_nil)))))) (sw_or1 (st_cmp (op_ne2 (hu64 hr)) opf_ne2 (se_call (md := [false]) L.d_written_value t.g_written_value hr1 tk rfl (sa_cons (se_name (pv 4)) sa_nil)) (se_name (pv 2)) rfl)))) (sb_one (ss_raise rfl tk t.x_NoText t.g_NoText t.xk_NoText (raises_own t.xs_NoText t.xt_NoText) rfl)) sb_nil)
    (sb_one (ss_ret (se_name (pv 4))))))))
theorem o__law_cell {n : Nat} {fd : FuncData} (t : Tx K mg) (L : Lv P w K mg base (2 * n) n) (F : FunD K "_law_cell" "_law_cell" (defArgs (topS 23)) (defBody (topS 23)) (defScope (topS 23)) [] [] (He.ga K "_law_cell") fd) : FnOk P w K mg base (L2.CX P w) (2 * (n + 1)) (He.ga K "_law_cell") fd P__law_cell (spOf K 2 (T (n + 1) ._law_cell)) :=
  def_ok (k := 2 * n + 1) (N := N__law_cell) (ps := P__law_cell) F sc__law_cell (by decide) fun cdv A outer s H E B W hr tk =>
    have nd := sc__law_cell.nd
    have hr1 := hr.mono (Nat.le_succ (2 * n))
    (sb_cons (ss_if (st_cmp op_lt opf_lt (se_name (pv 1)) (se_blt call_lenAll bf_len rfl t.b_len bt_len (sa_cons (se_name (pv 0)) sa_nil)) rfl) (sb_one (ss_ret (se_ix (hu1 hr) (se_name (pv 0)) (se_name (pv 1))))) sb_nil)
    (sb_one (ss_ret (se_op op_addAll opf_add (se_op op_mul2 opf_mul2 (se_op op_mul2 opf_mul2 (se_const pe_int rfl) (se_name (pv 1))) (se_name (pv 1))) (se_op op_mul2 opf_mul2 (se_const pe_int rfl) (se_name (pv 1)))))))
theorem o__law_dig {n : Nat} {fd : FuncData} (t : Tx K mg) (L : Lv P w K mg base (2 * n) n) (F : FunD K "_law_dig" "_law_dig" (defArgs (topS 24)) (defBody (topS 24)) (defScope (topS 24)) [] [] (He.ga K "_law_dig") fd) : FnOk P w K mg base (L2.CX P w) (2 * (n + 1)) (He.ga K "_law_dig") fd P__law_dig (spOf K 1 (T (n + 1) ._law_dig)) :=
  def_ok (k := 2 * n + 1) (N := N__law_dig) (ps := P__law_dig) F sc__law_dig (by decide) fun cdv A outer s H E B W hr tk =>
    have nd := sc__law_dig.nd
    have hr1 := hr.mono (Nat.le_succ (2 * n))
    (sb_one (ss_ret (se_lst (sa_cons (se_blt (call_max2 rfl) bf_max rfl t.b_max bt_max (sa_cons (se_const pe_int rfl) (sa_cons (se_op op_sub opf_sub (se_name (pv 0)) (se_op op_pow opf_pow (se_const pe_int rfl) (se_const pe_int rfl))) sa_nil))) (sa_cons (se_op op_mod opf_mod (se_name (pv 0)) (se_op op_pow opf_pow (se_const pe_int rfl) (se_const pe_int rfl))) (sa_cons (se_const pe_int rfl) sa_nil))))))
theorem o__law_next {n : Nat} {fd : FuncData} (t : Tx K mg) (L : Lv P w K mg base (2 * n) n) (F : FunD K "_law_next" "_law_next" (defArgs (topS 25)) (defBody (topS 25)) (defScope (topS 25)) [] [] (He.ga K "_law_next") fd) : FnOk P w K mg base (L2.CX P w) (2 * (n + 1)) (He.ga K "_law_next") fd P__law_next (spOf K 2 (T (n + 1) ._law_next)) :=
  def_ok (k := 2 * n + 1) (N := N__law_next) (ps := P__law_next) F sc__law_next (by decide) fun cdv A outer s H E B W hr tk =>
    have nd := sc__law_next.nd
    have hr1 := hr.mono (Nat.le_succ (2 * n))
    (sb_cons (ss_if (st_cmp op_gt opf_gt (se_ix (hu1 hr) (se_name (pv 0)) (se_const pe_int rfl)) (se_const pe_int rfl) rfl) (sb_cons (ss_set nd rfl (by first | exact .inl rfl | exact .inr rfl) (se_op op_mod opf_mod (se_ix (hu1 hr) (se_name (pv 0)) (se_const pe_int rfl)) (se_name (pv 1))))
    (sb_cons (ss_put (hu1 hr) (se_op op_fdivW opf_fdiv2 (se_ix (hu1 hr) (se_name (pv 0)) (se_const pe_int rfl)) (se_name (pv 1))) (pv 0) (se_const pe_int rfl))
    (sb_one (ss_ret (se_name (pv 4)))))) sb_nil)
    (sb_cons (ss_put (hu1 hr) (se_op op_addAll opf_add (se_ix (hu1 hr) (se_name (pv 0)) (se_const pe_int rfl)) (se_const pe_int rfl)) (pv 0) (se_const pe_int rfl))
    (sb_cons (ss_set nd rfl (by first | exact .inl rfl | exact .inr rfl) (se_op op_mod opf_mod (se_op op_addAll opf_add (se_ix (hu1 hr) (se_name (pv 0)) (se_const pe_int rfl)) (se_op op_mul2 opf_mul2 (se_const pe_int rfl) (se_ix (hu1 hr) (se_name (pv 0)) (se_const pe_int rfl)))) (se_const pe_int rfl)))
    (sb_cons (ss_set nd rfl (by first | exact .inl rfl | exact .inr rfl) (se_op op_mod opf_mod (se_op op_mul2 opf_mul2 (se_op op_addAll opf_add (se_name (pv 2)) (se_const pe_int rfl)) (se_op op_addAll opf_add (se_name (pv 2)) (se_const pe_int rfl))) (se_const pe_int rfl)))
    (sb_one (ss_ret (se_op op_mod opf_mod (se_op op_fdivW opf_fdiv2 (se_op op_mod opf_mod (se_op op_mul2 opf_mul2 (se_name (pv 3)) (se_name (pv 3))) (se_const pe_int rfl)) (se_const pe_int rfl)) (se_name (pv 1)))))))))
theorem o__law_calls {n : Nat} {fd : FuncData} (t : Tx K mg) (L : Lv P w K mg base (2 * n) n) (F : FunD K "_law_calls" "_law_calls" (defArgs (topS 26)) (defBody (topS 26)) (defScope (topS 26)) [] [] (He.ga K "_law_calls") fd) : FnOk P w K mg base (L2.CX P w) (2 * (n + 1)) (He.ga K "_law_calls") fd P__law_calls (spOf K 2 (T (n + 1) ._law_calls)) :=
  def_ok (k := 2 * n + 1) (N := N__law_calls) (ps := P__law_calls) F sc__law_calls (by decide) fun cdv A outer s H E B W hr tk =>
    have nd := sc__law_calls.nd
    have hr1 := hr.mono (Nat.le_succ (2 * n))
    (sb_cons (ss_set nd rfl (by first | exact .inl rfl | exact .inr rfl) (se_const pe_str lit_azL))
    (sb_cons (ss_set nd rfl (by first | exact .inl rfl | exact .inr rfl) (se_strm PySem.F.slot_str_join PySem.F.type_str_join mt_join sf_join (se_const pe_str lit_7) (sa_cons (se_lc rfl nd (si_range1 rfl t.b_range (sa_cons (se_call (md := [true, false]) L.d__law_next t.g__law_next hr1 tk rfl (sa_cons (se_name (pv 0)) (sa_cons (se_const pe_int rfl) sa_nil))) sa_nil)) (blkOk_by (own := [("k", 8)]) (N := N__law_calls) (sc := defScope (topS 26)) (by decide +kernel)) rfl (by decide) (fun _ _ _ _ _ => (sg_name nd rfl (by first | exact .inl rfl | exact .inr rfl))) (fun _ _ _ _ _ => sts_nil) (fun _ _ _ _ _ => (se_ix (hu1 hr) (se_name (pv 2)) (se_call (md := [true, false]) L.d__law_next t.g__law_next hr1 takes0 rfl (sa_cons (se_name (pv 0)) (sa_cons (se_const pe_int rfl) sa_nil)))))) sa_nil)))
    (sb_cons (ss_set nd rfl (by first | exact .inl rfl | exact .inr rfl) (se_call (md := [true, false]) L.d__law_next t.g__law_next hr1 tk rfl (sa_cons (se_name (pv 0)) (sa_cons (se_op op_addAll opf_add (se_blt call_lenAll bf_len rfl t.b_len bt_len (sa_cons (se_name (pv 3)) sa_nil)) (se_const pe_int rfl)) sa_nil))))
    (sb_cons (ss_set nd rfl (by first | exact .inl rfl | exact .inr rfl) (se_call (md := [true, false]) L.d__law_next t.g__law_next hr1 tk rfl (sa_cons (se_name (pv 0)) (sa_cons (se_const pe_int rfl) sa_nil))))
    (sb_cons (ss_set nd rfl (by first | exact .inl rfl | exact .inr rfl) (se_call (md := [true, false]) L.d__law_next t.g__law_next hr1 tk rfl (sa_cons (se_name (pv 0)) (sa_cons (se_const pe_int rfl) sa_nil))))
    (sb_cons (ss_set nd rfl (by first | exact .inl rfl | exact .inr rfl) (se_lst sa_nil))
    (sb_cons (ss_wipe (ss_for (passes_of rfl) rfl (si_range1 rfl t.b_range (sa_cons (se_name (pv 1)) sa_nil)) (sg_name nd rfl (by first | exact .inl rfl | exact .inr rfl)) (sb_wipe (sb_cons (ss_set nd rfl (by first | exact .inl rfl | exact .inr rfl) (se_op op_addAll opf_add (se_op op_addAll opf_add (se_slice (se_name (pv 3)) so_none (so_some (se_name (pv 4)))) (se_ix (hu1 hr) (se_name (pv 2)) (se_op op_mod opf_mod (se_op op_addAll opf_add (se_name (pv 5)) (se_op op_mul2 opf_mul2 (se_const pe_int rfl) (se_name (pv 8)))) (se_const pe_int rfl)))) (se_slice (se_name (pv 3)) (so_some (se_name (pv 4))) so_none)))
    (sb_cons (ss_if (st_pw (sw_and (st_cmp (op_eq2 (hu64 hr)) opf_eq2 (se_name (pv 6)) (se_const pe_int rfl) rfl) (sw_and1 (st_cmp (op_eq2 (hu64 hr)) opf_eq2 (se_op op_mod opf_mod (se_name (pv 8)) (se_const pe_int rfl)) (se_const pe_int rfl) rfl)))) (sb_one (ss_set nd rfl (by first | exact .inl rfl | exact .inr rfl) (se_op op_addAll opf_add (se_name (pv 9)) (se_ix (hu1 hr) (se_name (pv 2)) (se_op op_mod opf_mod (se_op op_addAll opf_add (se_name (pv 5)) (se_name (pv 8))) (se_const pe_int rfl)))))) sb_nil)
    (sb_one (ss_expr (se_mut PySem.F.slot_list_append PySem.F.type_list_append mt_append mf_append (pv 7) (sa_cons (se_name (pv 9)) sa_nil)))))))))
    (sb_one (ss_ret (se_name (pv 7)))))))))))
theorem o__law_volume {n : Nat} {fd : FuncData} (t : Tx K mg) (L : Lv P w K mg base (2 * n) n) (F : FunD K "_law_volume" "_law_volume" (defArgs (topS 27)) (defBody (topS 27)) (defScope (topS 27)) [] [] (He.ga K "_law_volume") fd) : FnOk P w K mg base (L2.CX P w) (2 * (n + 1)) (He.ga K "_law_volume") fd P__law_volume (spOf K 1 (T (n + 1) ._law_volume)) :=
  def_ok (k := 2 * n + 1) (N := N__law_volume) (ps := P__law_volume) F sc__law_volume (by decide) fun cdv A outer s H E B W hr tk =>
    have nd := sc__law_volume.nd
    have hr1 := hr.mono (Nat.le_succ (2 * n))
    (sb_cons (ss_set nd rfl (by first | exact .inl rfl | exact .inr rfl) (se_ix (hu1 hr) (se_lst (sa_cons (se_const pe_int rfl) (sa_cons (se_const pe_int rfl) (sa_cons (se_const pe_int rfl) (sa_cons (se_const pe_int rfl) (sa_cons (se_const pe_int rfl) (sa_cons (se_const pe_int rfl) (sa_cons (se_const pe_int rfl) (sa_cons (se_const pe_int rfl) sa_nil))))))))) (se_call (md := [true, false]) L.d__law_next t.g__law_next hr1 tk rfl (sa_cons (se_name (pv 0)) (sa_cons (se_const pe_int rfl) sa_nil)))))
    (sb_cons (ss_set nd rfl (by first | exact .inl rfl | exact .inr rfl) (se_lc rfl nd (si_iter (se_call (md := [true, false]) L.d__law_calls t.g__law_calls hr1 tk rfl (sa_cons (se_name (pv 0)) (sa_cons (se_name (pv 1)) sa_nil)))) (blkOk_by (own := [("name", 8)]) (N := N__law_volume) (sc := defScope (topS 27)) (by decide +kernel)) rfl (by decide) (fun _ _ _ _ _ => (sg_name nd rfl (by first | exact .inl rfl | exact .inr rfl))) (fun _ _ _ _ _ => sts_nil) (fun _ _ _ _ _ => (se_ix (hu1 hr) (se_lst (sa_cons (se_name (pv 8)) (sa_cons (se_const pe_str lit_8) sa_nil))) (se_bty call_intAll bf_int rfl t.b_int bt_int (sa_cons (se_cmp (op_eq2 (hu64 hr)) opf_eq2 (se_name (pv 8)) (se_const pe_str lit_numL) rfl) sa_nil))))))
    (sb_cons (ss_set nd rfl (by first | exact .inl rfl | exact .inr rfl) (se_call (md := [true, false]) L.d__law_calls t.g__law_calls hr1 tk rfl (sa_cons (se_name (pv 0)) (sa_cons (se_const pe_int rfl) sa_nil))))
    (sb_cons (ss_set nd rfl (by first | exact .inl rfl | exact .inr rfl) (se_lst sa_nil))
    (sb_cons (ss_wipe (ss_for (passes_of rfl) rfl (si_iter (se_name (pv 2))) (sg_name nd rfl (by first | exact .inl rfl | exact .inr rfl)) (sb_wipe (sb_cons (ss_set nd rfl (by first | exact .inl rfl | exact .inr rfl) (se_lst sa_nil))
    (sb_cons (ss_wipe (ss_for (passes_of rfl) rfl (si_range1 rfl t.b_range (sa_cons (se_blt (call_min2 rfl) bf_min rfl t.b_min bt_min (sa_cons (se_ix (hu1 hr) (se_lst (sa_cons (se_const pe_int rfl) (sa_cons (se_const pe_int rfl) (sa_cons (se_const pe_int rfl) (sa_cons (se_const pe_int rfl) (sa_cons (se_const pe_int rfl) (sa_cons (se_const pe_int rfl) (sa_cons (se_const pe_int rfl) (sa_cons (se_const pe_int rfl) sa_nil))))))))) (se_call (md := [true, false]) L.d__law_next t.g__law_next hr1 tk rfl (sa_cons (se_name (pv 0)) (sa_cons (se_const pe_int rfl) sa_nil)))) (sa_cons (se_op op_addAll opf_add (se_op op_addAll opf_add (se_op op_sub opf_sub (se_blt call_lenAll bf_len rfl t.b_len bt_len (sa_cons (se_name (pv 3)) sa_nil)) (se_name (pv 1))) (se_blt call_lenAll bf_len rfl t.b_len bt_len (sa_cons (se_name (pv 4)) sa_nil))) (se_const pe_int rfl)) sa_nil))) sa_nil)) (sg_name nd rfl (by first | exact .inl rfl | exact .inr rfl)) (sb_wipe (sb_cons (ss_set nd rfl (by first | exact .inl rfl | exact .inr rfl) (se_blt (call_min2 rfl) bf_min rfl t.b_min bt_min (sa_cons (se_ix (hu1 hr) (se_lst (sa_cons (se_const pe_int rfl) (sa_cons (se_const pe_int rfl) (sa_cons (se_const pe_int rfl) (sa_cons (se_const pe_int rfl) (sa_cons (se_const pe_int rfl) (sa_cons (se_const pe_int rfl) (sa_cons (se_const pe_int rfl) (sa_cons (se_const pe_int rfl) sa_nil))))))))) (se_call (md := [true, false]) L.d__law_next t.g__law_next hr1 tk rfl (sa_cons (se_name (pv 0)) (sa_cons (se_const pe_int rfl) sa_nil)))) (sa_cons (se_ix (hu1 hr) (se_lst (sa_cons (se_const pe_int rfl) (sa_cons (se_const pe_int rfl) sa_nil))) (se_bty call_intAll bf_int rfl t.b_int bt_int (sa_cons (se_cmp op_gt opf_gt (se_name (pv 1)) (se_const pe_int rfl) rfl) sa_nil))) sa_nil))))
    (sb_cons (ss_setLc rfl nd rfl rfl (sw_true rfl rfl rfl (by decide +kernel)) (si_range1 rfl t.b_range (sa_cons (se_name (pv 9)) sa_nil)) (blkOk_by (own := [("at", 11)]) (N := N__law_volume) (sc := defScope (topS 27)) (by decide +kernel)) rfl (by decide) (fun _ _ _ _ _ => (sg_name nd rfl (by first | exact .inl rfl | exact .inr rfl))) (fun _ _ _ _ _ => sts_nil) (fun _ _ _ _ _ => (se_ix (hu1 hr) (se_op op_addAll opf_add (se_name (pv 2)) (se_op op_mul2 opf_mul2 (se_lst (sa_cons (se_const pe_str lit_numL) sa_nil)) (se_const pe_int rfl))) (se_call (md := [true, false]) L.d__law_next t.g__law_next hr1 takes0 rfl (sa_cons (se_name (pv 0)) (sa_cons (se_op op_addAll opf_add (se_name (pv 1)) (se_const pe_int rfl)) sa_nil))))))
    (sb_one (ss_expr (se_mut PySem.F.slot_list_append PySem.F.type_list_append mt_append mf_append (pv 6) (sa_cons (se_tup (sa_cons (se_mut PySem.F.slot_list_pop PySem.F.type_list_pop mt_popAt mf_popAt (pv 3) (sa_cons (se_const pe_int rfl) sa_nil)) (sa_cons (se_bty call_tuple_of bf_tuple rfl t.b_tuple bt_tuple (sa_cons (se_name (pv 10)) sa_nil)) sa_nil))) sa_nil)))))))))
    (sb_one (ss_expr (se_mut PySem.F.slot_list_append PySem.F.type_list_append mt_append mf_append (pv 4) (sa_cons (se_tup (sa_cons (se_name (pv 5)) (sa_cons (se_bty call_tuple_of bf_tuple rfl t.b_tuple bt_tuple (sa_cons (se_name (pv 6)) sa_nil)) sa_nil))) sa_nil)))))))))
    (sb_one (ss_ret (se_bty call_tuple_of bf_tuple rfl t.b_tuple bt_tuple (sa_cons (se_name (pv 4)) sa_nil)))))))))
theorem o__law_rounds {n : Nat} {fd : FuncData} (t : Tx K mg) (L : Lv P w K mg base (2 * n) n) (F : FunD K "_law_rounds" "_law_rounds" (defArgs (topS 28)) (defBody (topS 28)) (defScope (topS 28)) [] [] (He.ga K "_law_rounds") fd) : FnOk P w K mg base (L2.CX P w) (2 * (n + 1)) (He.ga K "_law_rounds") fd P__law_rounds (spOf K 1 (T (n + 1) ._law_rounds)) :=
  def_ok (k := 2 * n + 1) (N := N__law_rounds) (ps := P__law_rounds) F sc__law_rounds (by decide) fun cdv A outer s H E B W hr tk =>
    have nd := sc__law_rounds.nd
    have hr1 := hr.mono (Nat.le_succ (2 * n))
    (sb_cons (ss_set nd rfl (by first | exact .inl rfl | exact .inr rfl) se_dict0)
    (sb_cons (ss_wipe (ss_for (passes_of rfl) rfl (si_range1 rfl t.b_range (sa_cons (se_blt call_lenAll bf_len rfl t.b_len bt_len (sa_cons (se_name (pv 0)) sa_nil)) sa_nil)) (sg_name nd rfl (by first | exact .inl rfl | exact .inr rfl)) (sb_wipe (sb_cons (ss_set nd rfl (by first | exact .inl rfl | exact .inr rfl) (se_op op_addAll opf_add (se_bty (call_list2 rfl) bf_list2 rfl t.b_list bt_list (sa_cons (se_name (pv 1)) sa_nil)) (se_lst (sa_cons (se_const pe_str lit_numL) sa_nil))))
    (sb_one (ss_wipe (ss_for (passes_of rfl) rfl (si_iter (se_name (pv 0))) (sg_tup rfl (sgs_cons (sg_name nd rfl (by first | exact .inl rfl | exact .inr rfl)) (sgs_cons (sg_name nd rfl (by first | exact .inl rfl | exact .inr rfl)) sgs_nil))) (sb_wipe (sb_one (ss_wipe (ss_for (passes_of rfl) rfl (si_iter (se_name (pv 5))) (sg_name nd rfl (by first | exact .inl rfl | exact .inr rfl)) (sb_wipe (sb_one (ss_if (st_pw (sw_and (st_cmp (op_notInAll (hu65 hr)) opf_in (se_name (pv 4)) (se_name (pv 1)) rfl) (sw_and1 (st_val (se_blt (cr_all rfl) bf_all rfl t.b_all bt_all (sa_cons (se_lc rfl nd (si_iter (se_ix (hu1 hr) (se_name (pv 6)) (se_const pe_int rfl))) (blkOk_by (own := [("field", 7)]) (N := N__law_rounds) (sc := defScope (topS 28)) (by decide +kernel)) rfl (by decide) (fun _ _ _ _ _ => (sg_name nd rfl (by first | exact .inl rfl | exact .inr rfl))) (fun _ _ _ _ _ => sts_nil) (fun _ _ _ _ _ => (se_cmp (op_inAll (hu65 hr)) opf_in (se_name (pv 7)) (se_name (pv 3)) rfl))) sa_nil)))))) (sb_one (ss_put (hu1 hr) (se_name (pv 6)) (pv 1) (se_name (pv 4)))) sb_nil))))))))))))))
    (sb_one (ss_ret (se_name (pv 1))))))
theorem o__law_all_makes {n : Nat} {fd : FuncData} (t : Tx K mg) (L : Lv P w K mg base (2 * n) n) (F : FunD K "_law_all_makes" "_law_all_makes" (defArgs (topS 29)) (defBody (topS 29)) (defScope (topS 29)) [] [] (He.ga K "_law_all_makes") fd) : FnOk P w K mg base (L2.CX P w) (2 * (n + 1)) (He.ga K "_law_all_makes") fd P__law_all_makes (spOf K 2 (T (n + 1) ._law_all_makes)) :=
  def_ok (k := 2 * n + 1) (N := N__law_all_makes) (ps := P__law_all_makes) F sc__law_all_makes (by decide) fun cdv A outer s H E B W hr tk =>
    have nd := sc__law_all_makes.nd
    have hr1 := hr.mono (Nat.le_succ (2 * n))
    (sb_cons (ss_wipe (ss_for (passes_of rfl) rfl (si_iter (se_ix (hu1 hr) (se_name (pv 0)) (se_const pe_int rfl))) (sg_tup rfl (sgs_cons (sg_name nd rfl (by first | exact .inl rfl | exact .inr rfl)) (sgs_cons (sg_name nd rfl (by first | exact .inl rfl | exact .inr rfl)) sgs_nil))) (sb_wipe (sb_one (ss_if (st_cmp (op_eq2 (hu64 hr)) opf_eq2 (se_name (pv 2)) (se_name (pv 1)) rfl) (sb_one (ss_ret (se_bty (call_list2 rfl) bf_list2 rfl t.b_list bt_list (sa_cons (se_name (pv 3)) sa_nil)))) sb_nil)))))
    (sb_one (ss_ret (se_lst sa_nil))))
theorem o__law_alive {n : Nat} {fd : FuncData} (t : Tx K mg) (L : Lv P w K mg base (2 * n) n) (F : FunD K "_law_alive" "_law_alive" (defArgs (topS 30)) (defBody (topS 30)) (defScope (topS 30)) [] [] (He.ga K "_law_alive") fd) : FnOk P w K mg base (L2.CX P w) (2 * (n + 1)) (He.ga K "_law_alive") fd P__law_alive (spOf K 2 (T (n + 1) ._law_alive)) :=
  def_ok (k := 2 * n + 1) (N := N__law_alive) (ps := P__law_alive) F sc__law_alive (by decide) fun cdv A outer s H E B W hr tk =>
    have nd := sc__law_alive.nd
    have hr1 := hr.mono (Nat.le_succ (2 * n))
    (sb_cons (ss_set nd rfl (by first | exact .inl rfl | exact .inr rfl) (se_lst sa_nil))
    (sb_cons (ss_wipe (ss_for (passes_of rfl) rfl (si_iter (se_call (md := [false, false]) L.d__law_all_makes t.g__law_all_makes hr1 tk rfl (sa_cons (se_name (pv 0)) (sa_cons (se_name (pv 1)) sa_nil)))) (sg_name nd rfl (by first | exact .inl rfl | exact .inr rfl)) (sb_wipe (sb_one (ss_if (st_val (se_blt (cr_all rfl) bf_all rfl t.b_all bt_all (sa_cons (se_lc rfl nd (si_iter (se_ix (hu1 hr) (se_name (pv 3)) (se_const pe_int rfl))) (blkOk_by (own := [("field", 4)]) (N := N__law_alive) (sc := defScope (topS 30)) (by decide +kernel)) rfl (by decide) (fun _ _ _ _ _ => (sg_name nd rfl (by first | exact .inl rfl | exact .inr rfl))) (fun _ _ _ _ _ => sts_nil) (fun _ _ _ _ _ => (se_or (se_cmp (op_eq2 (hu64 hr)) opf_eq2 (se_name (pv 4)) (se_const pe_str lit_numL) rfl) (se_one (se_cmp (op_inAll (hu65 hr)) opf_in (se_name (pv 4)) (se_ix (hu1 hr) (se_name (pv 0)) (se_const pe_int rfl)) rfl))))) sa_nil))) (sb_one (ss_expr (se_mut PySem.F.slot_list_append PySem.F.type_list_append mt_append mf_append (pv 2) (sa_cons (se_name (pv 3)) sa_nil)))) sb_nil)))))
    (sb_one (ss_ret (se_name (pv 2))))))
theorem o__law_alike {n : Nat} {fd : FuncData} (t : Tx K mg) (L : Lv P w K mg base (2 * n) n) (F : FunD K "_law_alike" "_law_alike" (defArgs (topS 31)) (defBody (topS 31)) (defScope (topS 31)) [] [] (He.ga K "_law_alike") fd) : FnOk P w K mg base (L2.CX P w) (2 * (n + 1)) (He.ga K "_law_alike") fd P__law_alike (spOf K 2 (T (n + 1) ._law_alike)) :=
  def_ok (k := 2 * n + 1) (N := N__law_alike) (ps := P__law_alike) F sc__law_alike (by decide) fun cdv A outer s H E B W hr tk =>
    have nd := sc__law_alike.nd
    have hr1 := hr.mono (Nat.le_succ (2 * n))
    (sb_cons (ss_if (st_val (se_isi (se_name (pv 1)) rfl t.b_isinstance bt_isinstance rfl t.b_tuple bt_tuple)) (sb_cons (ss_if (st_pw (sw_or (st_not (st_val (se_isi (se_name (pv 0)) rfl t.b_isinstance bt_isinstance rfl t.b_tuple bt_tuple))) (sw_or1 (st_cmp (op_ne2 (hu64 hr)) opf_ne2 (se_blt call_lenAll bf_len rfl t.b_len bt_len (sa_cons (se_name (pv 0)) sa_nil)) (se_blt call_lenAll bf_len rfl t.b_len bt_len (sa_cons (se_name (pv 1)) sa_nil)) rfl)))) (sb_one (ss_ret (se_const pe_bl rfl))) sb_nil)
    (sb_one (ss_ret (se_blt (cr_all rfl) bf_all rfl t.b_all bt_all (sa_cons (se_lc rfl nd (si_zip rfl t.b_zip (sa_cons (se_name (pv 0)) (sa_cons (se_name (pv 1)) sa_nil))) (blkOk_by (own := [("one", 2), ("other", 3)]) (N := N__law_alike) (sc := defScope (topS 31)) (by decide +kernel)) rfl (by decide) (fun _ _ _ _ _ => (sg_tup rfl (sgs_cons (sg_name nd rfl (by first | exact .inl rfl | exact .inr rfl)) (sgs_cons (sg_name nd rfl (by first | exact .inl rfl | exact .inr rfl)) sgs_nil)))) (fun _ _ _ _ _ => sts_nil) (fun _ _ _ _ _ => (se_call (md := [false, false]) L.d__law_alike t.g__law_alike hr1 takes0 rfl (sa_cons (se_name (pv 2)) (sa_cons (se_name (pv 3)) sa_nil))))) sa_nil))))) sb_nil)
    (sb_cons (ss_if (st_val (se_isi (se_name (pv 1)) rfl t.b_isinstance bt_isinstance rfl t.b_int bt_int)) (sb_one (ss_ret (se_and (se_isi (se_name (pv 0)) rfl t.b_isinstance bt_isinstance rfl t.b_int bt_int) (se_and (se_not (se_isi (se_name (pv 0)) rfl t.b_isinstance bt_isinstance rfl t.b_bool bt_bool)) (se_one (se_cmp (op_eq2 (hu64 hr)) opf_eq2 (se_name (pv 0)) (se_name (pv 1)) rfl)))))) sb_nil)
    (sb_cons (ss_if (st_val (se_isi (se_name (pv 1)) rfl t.b_isinstance bt_isinstance rfl t.b_str bt_str)) (sb_one (ss_ret (se_and (se_isi (se_name (pv 0)) rfl t.b_isinstance bt_isinstance rfl t.b_str bt_str) (se_one (se_cmp (op_eq2 (hu64 hr)) opf_eq2 (se_name (pv 0)) (se_name (pv 1)) rfl))))) sb_nil)
    (sb_one (ss_ret (se_and (se_cmp op_isN opf_isN (se_name (pv 0)) (se_const pe_non trivial) rfl) (se_one (se_cmp op_isN opf_isN (se_name (pv 1)) (se_const pe_non trivial) rfl))))))))
theorem o__law_bracketed {n : Nat} {fd : FuncData} (t : Tx K mg) (L : Lv P w K mg base (2 * n) n) (F : FunD K "_law_bracketed" "_law_bracketed" (defArgs (topS 32)) (defBody (topS 32)) (defScope (topS 32)) [] [] (He.ga K "_law_bracketed") fd) : FnOk P w K mg base (L2.CX P w) (2 * (n + 1)) (He.ga K "_law_bracketed") fd P__law_bracketed (spOf K 2 (T (n + 1) ._law_bracketed)) :=
  def_ok (k := 2 * n + 1) (N := N__law_bracketed) (ps := P__law_bracketed) F sc__law_bracketed (by decide) fun cdv A outer s H E B W hr tk =>
    have nd := sc__law_bracketed.nd
    have hr1 := hr.mono (Nat.le_succ (2 * n))
    (sb_cons (ss_if (st_cmp (op_eq2 (hu64 hr)) opf_eq2 (se_blt call_lenAll bf_len rfl t.b_len bt_len (sa_cons (se_name (pv 1)) sa_nil)) (se_const pe_int rfl) rfl) (sb_one (ss_ret (se_name (pv 0)))) sb_nil)
    (sb_one (ss_ret (se_op op_addAll opf_add (se_op op_addAll opf_add (se_op op_addAll opf_add (se_name (pv 0)) (se_const pe_str lit_1)) (se_strm PySem.F.slot_str_join PySem.F.type_str_join mt_join sf_join (se_const pe_str lit_2) (sa_cons (se_name (pv 1)) sa_nil))) (se_const pe_str lit_3)))))
theorem o__law_value_text {n : Nat} {fd : FuncData} (t : Tx K mg) (L : Lv P w K mg base (2 * n) n) (F : FunD K "_law_value_text" "_law_value_text" (defArgs (topS 33)) (defBody (topS 33)) (defScope (topS 33)) [] [] (He.ga K "_law_value_text") fd) : FnOk P w K mg base (L2.CX P w) (2 * (n + 1)) (He.ga K "_law_value_text") fd P__law_value_text (spOf K 1 (T (n + 1) ._law_value_text)) :=
  def_ok (k := 2 * n + 1) (N := N__law_value_text) (ps := P__law_value_text) F sc__law_value_text (by decide) fun cdv A outer s H E B W hr tk =>
    have nd := sc__law_value_text.nd
    have hr1 := hr.mono (Nat.le_succ (2 * n))
    (sb_cons (ss_if (st_not (st_val (se_isi (se_name (pv 0)) rfl t.b_isinstance bt_isinstance rfl t.b_tuple bt_tuple))) (sb_one (ss_ret (se_bty call_str_int bf_str rfl t.b_str bt_str (sa_cons (se_name (pv 0)) sa_nil)))) sb_nil)
    (sb_one (ss_ret (se_call (md := [false, false]) L.d__law_bracketed t.g__law_bracketed hr1 tk rfl (sa_cons (se_ix (hu1 hr) (se_name (pv 0)) (se_const pe_int rfl)) (sa_cons (se_lc rfl nd (si_iter (se_slice (se_name (pv 0)) (so_some (se_const pe_int rfl)) so_none)) (blkOk_by (own := [("part", 1)]) (N := N__law_value_text) (sc := defScope (topS 33)) (by decide +kernel)) rfl (by decide) (fun _ _ _ _ _ => (sg_name nd rfl (by first | exact .inl rfl | exact .inr rfl))) (fun _ _ _ _ _ => sts_nil) (fun _ _ _ _ _ => (se_call (md := [false]) L.d__law_value_text t.g__law_value_text hr1 takes0 rfl (sa_cons (se_name (pv 1)) sa_nil)))) sa_nil))))))
theorem o__law_number {n : Nat} {fd : FuncData} (t : Tx K mg) (L : Lv P w K mg base (2 * n) n) (F : FunD K "_law_number" "_law_number" (defArgs (topS 34)) (defBody (topS 34)) (defScope (topS 34)) [] [] (He.ga K "_law_number") fd) : FnOk P w K mg base (L2.CX P w) (2 * (n + 1)) (He.ga K "_law_number") fd P__law_number (spOf K 1 (T (n + 1) ._law_number)) :=
  def_ok (k := 2 * n + 1) (N := N__law_number) (ps := P__law_number) F sc__law_number (by decide) fun cdv A outer s H E B W hr tk =>
    have nd := sc__law_number.nd
    have hr1 := hr.mono (Nat.le_succ (2 * n))
    (sb_cons (ss_set nd rfl (by first | exact .inl rfl | exact .inr rfl) (se_call (md := [true, false]) L.d__law_next t.g__law_next hr1 tk rfl (sa_cons (se_name (pv 0)) (sa_cons (se_const pe_int rfl) sa_nil))))
    (sb_cons (ss_if (st_cmp op_lt opf_lt (se_name (pv 1)) (se_const pe_int rfl) rfl) (sb_one (ss_ret (se_op op_sub opf_sub (se_call (md := [true, false]) L.d__law_next t.g__law_next hr1 tk rfl (sa_cons (se_name (pv 0)) (sa_cons (se_const pe_int rfl) sa_nil))) (se_const pe_int rfl)))) sb_nil)
    (sb_cons (ss_if (st_cmp (op_eq2 (hu64 hr)) opf_eq2 (se_name (pv 1)) (se_const pe_int rfl) rfl) (sb_one (ss_ret (se_op op_sub opf_sub (se_call (md := [true, false]) L.d__law_next t.g__law_next hr1 tk rfl (sa_cons (se_name (pv 0)) (sa_cons (se_const pe_int rfl) sa_nil))) (se_const pe_int rfl)))) sb_nil)
    (sb_one (ss_ret (se_op op_sub opf_sub (se_call (md := [true, false]) L.d__law_next t.g__law_next hr1 tk rfl (sa_cons (se_name (pv 0)) (sa_cons (se_op op_pow opf_pow (se_const pe_int rfl) (se_const pe_int rfl)) sa_nil))) (se_call (md := [true, false]) L.d__law_next t.g__law_next hr1 tk rfl (sa_cons (se_name (pv 0)) (sa_cons (se_op op_pow opf_pow (se_const pe_int rfl) (se_const pe_int rfl)) sa_nil)))))))))
theorem o__law_item {n : Nat} {fd : FuncData} (t : Tx K mg) (L : Lv P w K mg base (2 * n) n) (F : FunD K "_law_item" "_law_item" (defArgs (topS 35)) (defBody (topS 35)) (defScope (topS 35)) [] [] (He.ga K "_law_item") fd) : FnOk P w K mg base (L2.CX P w) (2 * (n + 1)) (He.ga K "_law_item") fd P__law_item (spOf K 4 (T (n + 1) ._law_item)) :=
  def_ok (k := 2 * n + 1) (N := N__law_item) (ps := P__law_item) F sc__law_item (by decide) fun cdv A outer s H E B W hr tk =>
    have nd := sc__law_item.nd
    have hr1 := hr.mono (Nat.le_succ (2 * n))
    (sb_cons (ss_if (st_cmp (op_eq2 (hu64 hr)) opf_eq2 (se_name (pv 1)) (se_const pe_str lit_numL) rfl) (sb_one (ss_ret (se_call (md := [true]) L.d__law_number t.g__law_number hr1 tk rfl (sa_cons (se_name (pv 2)) sa_nil)))) sb_nil)
    (sb_cons (ss_set nd rfl (by first | exact .inl rfl | exact .inr rfl) (se_lst (sa_cons (se_ix (hu1 hr) (se_ix (hu1 hr) (se_name (pv 0)) (se_const pe_int rfl)) (se_name (pv 1))) sa_nil)))
    (sb_cons (ss_if (st_cmp op_gt opf_gt (se_name (pv 3)) (se_const pe_int rfl) rfl) (sb_one (ss_set nd rfl (by first | exact .inl rfl | exact .inr rfl) (se_call (md := [false, false]) L.d__law_alive t.g__law_alive hr1 tk rfl (sa_cons (se_name (pv 0)) (sa_cons (se_name (pv 1)) sa_nil))))) sb_nil)
    (sb_cons (ss_set nd rfl (by first | exact .inl rfl | exact .inr rfl) (se_ix (hu1 hr) (se_name (pv 4)) (se_call (md := [true, false]) L.d__law_next t.g__law_next hr1 tk rfl (sa_cons (se_name (pv 2)) (sa_cons (se_blt call_lenAll bf_len rfl t.b_len bt_len (sa_cons (se_name (pv 4)) sa_nil)) sa_nil)))))
    (sb_one (ss_ret (se_op op_addAll opf_add (se_tup (sa_cons (se_ix (hu1 hr) (se_name (pv 5)) (se_const pe_int rfl)) sa_nil)) (se_bty call_tuple_of bf_tuple rfl t.b_tuple bt_tuple (sa_cons (se_lc rfl nd (si_iter (se_ix (hu1 hr) (se_name (pv 5)) (se_const pe_int rfl))) (blkOk_by (own := [("field", 6)]) (N := N__law_item) (sc := defScope (topS 35)) (by decide +kernel)) rfl (by decide) (fun _ _ _ _ _ => (sg_name nd rfl (by first | exact .inl rfl | exact .inr rfl))) (fun _ _ _ _ _ => sts_nil) (fun _ _ _ _ _ => (se_call (md := [false, false, true, false]) L.d__law_item t.g__law_item hr1 takes0 rfl (sa_cons (se_name (pv 0)) (sa_cons (se_name (pv 6)) (sa_cons (se_name (pv 2)) (sa_cons (se_op op_sub opf_sub (se_name (pv 3)) (se_const pe_int rfl)) sa_nil))))))) sa_nil)))))))))
theorem o__law_chained {n : Nat} {fd : FuncData} (t : Tx K mg) (L : Lv P w K mg base (2 * n) n) (F : FunD K "_law_chained" "_law_chained" (defArgs (topS 36)) (defBody (topS 36)) (defScope (topS 36)) [] [] (He.ga K "_law_chained") fd) : FnOk P w K mg base (L2.CX P w) (2 * (n + 1)) (He.ga K "_law_chained") fd P__law_chained (spOf K 1 (T (n + 1) ._law_chained)) :=
  def_ok (k := 2 * n + 1) (N := N__law_chained) (ps := P__law_chained) F sc__law_chained (by decide) fun cdv A outer s H E B W hr tk =>
    have nd := sc__law_chained.nd
    have hr1 := hr.mono (Nat.le_succ (2 * n))
    (sb_cons (ss_set nd rfl (by first | exact .inl rfl | exact .inr rfl) (se_lc rfl nd (si_iter (se_name (pv 0))) (blkOk_by (own := [("row", 7)]) (N := N__law_chained) (sc := defScope (topS 36)) (by decide +kernel)) rfl (by decide) (fun _ _ _ _ _ => (sg_name nd rfl (by first | exact .inl rfl | exact .inr rfl))) (fun _ _ _ _ _ => sts_nil) (fun _ _ _ _ _ => (se_ix (hu1 hr) (se_name (pv 7)) (se_const pe_int rfl)))))
    (sb_cons (ss_wipe (ss_set nd rfl (by first | exact .inl rfl | exact .inr rfl) (se_lst sa_nil)))
    (sb_cons (ss_wipe (ss_for (passes_of rfl) rfl (si_iter (se_name (pv 0))) (sg_tup rfl (sgs_cons (sg_name nd rfl (by first | exact .inl rfl | exact .inr rfl)) (sgs_cons (sg_name nd rfl (by first | exact .inl rfl | exact .inr rfl)) sgs_nil))) (sb_wipe (sb_one (ss_set nd rfl (by first | exact .inl rfl | exact .inr rfl) (se_op op_addAll opf_add (se_name (pv 2)) (se_lc rfl nd (si_iter (se_name (pv 6))) (blkOk_by (own := [("make", 9)]) (N := N__law_chained) (sc := defScope (topS 36)) (by decide +kernel)) rfl (by decide) (fun _ _ _ _ _ => (sg_name nd rfl (by first | exact .inl rfl | exact .inr rfl))) (fun _ _ _ _ _ => sts_nil) (fun _ _ _ _ _ => (se_ix (hu1 hr) (se_name (pv 9)) (se_const pe_int rfl))))))))))
    (sb_cons (ss_set nd rfl (by first | exact .inl rfl | exact .inr rfl) (se_ix (hu1 hr) (se_lc rfl nd (si_iter (se_lst (sa_cons (se_const pe_str lit_11) (sa_cons (se_const pe_str lit_10) (sa_cons (se_const pe_str lit_9) sa_nil))))) (blkOk_by (own := [("word", 8)]) (N := N__law_chained) (sc := defScope (topS 36)) (by decide +kernel)) rfl (by decide) (fun _ _ _ _ _ => (sg_name nd rfl (by first | exact .inl rfl | exact .inr rfl))) (fun _ _ _ _ _ => (sts_one (st_cmp (op_notInAll (hu65 hr)) opf_in (se_name (pv 8)) (se_name (pv 1)) rfl))) (fun _ _ _ _ _ => (se_name (pv 8)))) (se_const pe_int rfl)))
    (sb_cons (ss_setLc rfl nd rfl rfl (sw_true rfl rfl rfl (by decide +kernel)) (si_iter (se_lst (sa_cons (se_const pe_str lit_14) (sa_cons (se_const pe_str lit_13) (sa_cons (se_const pe_str lit_12) sa_nil))))) (blkOk_by (own := [("word", 8)]) (N := N__law_chained) (sc := defScope (topS 36)) (by decide +kernel)) rfl (by decide) (fun _ _ _ _ _ => (sg_name nd rfl (by first | exact .inl rfl | exact .inr rfl))) (fun _ _ _ _ _ => (sts_one (st_cmp (op_notInAll (hu65 hr)) opf_in (se_name (pv 8)) (se_name (pv 2)) rfl))) (fun _ _ _ _ _ => (se_name (pv 8))))
    (sb_cons (ss_setLc rfl nd rfl rfl (sw_true rfl rfl rfl (by decide +kernel)) (si_iter (se_lst (sa_cons (se_const pe_str lit_17) (sa_cons (se_const pe_str lit_16) (sa_cons (se_const pe_str lit_15) sa_nil))))) (blkOk_by (own := [("word", 8)]) (N := N__law_chained) (sc := defScope (topS 36)) (by decide +kernel)) rfl (by decide) (fun _ _ _ _ _ => (sg_name nd rfl (by first | exact .inl rfl | exact .inr rfl))) (fun _ _ _ _ _ => (sts_one (st_cmp (op_notInAll (hu65 hr)) opf_in (se_name (pv 8)) (se_name (pv 2)) rfl))) (fun _ _ _ _ _ => (se_name (pv 8))))
    (sb_one (ss_ret (se_op op_addAll opf_add (se_name (pv 0)) (se_tup (sa_cons (se_tup (sa_cons (se_name (pv 3)) (sa_cons (se_tup (sa_cons (se_tup (sa_cons (se_ix (hu1 hr) (se_name (pv 4)) (se_const pe_int rfl)) (sa_cons (se_tup sa_nil) sa_nil))) (sa_cons (se_tup (sa_cons (se_ix (hu1 hr) (se_name (pv 5)) (se_const pe_int rfl)) (sa_cons (se_tup (sa_cons (se_const pe_str lit_numL) (sa_cons (se_name (pv 3)) sa_nil))) sa_nil))) sa_nil))) sa_nil))) sa_nil)))))))))))
theorem o__law_chain {n : Nat} {fd : FuncData} (t : Tx K mg) (L : Lv P w K mg base (2 * n) n) (F : FunD K "_law_chain" "_law_chain" (defArgs (topS 37)) (defBody (topS 37)) (defScope (topS 37)) [] [] (He.ga K "_law_chain") fd) : FnOk P w K mg base (L2.CX P w) (2 * (n + 1)) (He.ga K "_law_chain") fd P__law_chain (spOf K 2 (T (n + 1) ._law_chain)) :=
  def_ok (k := 2 * n + 1) (N := N__law_chain) (ps := P__law_chain) F sc__law_chain (by decide) fun cdv A outer s H E B W hr tk =>
    have nd := sc__law_chain.nd
    have hr1 := hr.mono (Nat.le_succ (2 * n))
    (sb_cons (ss_asg (vs := []) (se_ix (hu1 hr) (se_ix (hu1 hr) (se_name (pv 0)) (se_neg (se_const pe_int rfl))) (se_const pe_int rfl)) (sg_tup rfl (sgs_cons (sg_name nd rfl (by first | exact .inl rfl | exact .inr rfl)) (sgs_cons (sg_name nd rfl (by first | exact .inl rfl | exact .inr rfl)) sgs_nil))))
    (sb_cons (ss_set nd rfl (by first | exact .inl rfl | exact .inr rfl) (se_tup (sa_cons (se_ix (hu1 hr) (se_name (pv 4)) (se_const pe_int rfl)) sa_nil)))
    (sb_cons (ss_wipe (ss_for (passes_of rfl) rfl (si_range1 rfl t.b_range (sa_cons (se_name (pv 1)) sa_nil)) (sg_name nd rfl (by first | exact .inl rfl | exact .inr rfl)) (sb_wipe (sb_one (ss_set nd rfl (by first | exact .inl rfl | exact .inr rfl) (se_tup (sa_cons (se_ix (hu1 hr) (se_name (pv 5)) (se_const pe_int rfl)) (sa_cons (se_op op_sub opf_sub (se_name (pv 3)) (se_const pe_int rfl)) (sa_cons (se_name (pv 2)) sa_nil)))))))))
    (sb_one (ss_ret (se_name (pv 2)))))))
theorem o_law {n : Nat} {fd : FuncData} (t : Tx K mg) (L : Lv P w K mg base (2 * n) n) (F : FunD K "law" "law" (defArgs (topS 38)) (defBody (topS 38)) (defScope (topS 38)) [] [] (He.ga K "law") fd) : FnOk P w K mg base (L2.CX P w) (2 * (n + 1)) (He.ga K "law") fd P_law (spOf K 1 (T (n + 1) .law)) :=
  def_ok (k := 2 * n + 1) (N := N_law) (ps := P_law) F sc_law (by decide) fun cdv A outer s H E B W hr tk =>
    have nd := sc_law.nd
    have hr1 := hr.mono (Nat.le_succ (2 * n))
    (sb_cons (ss_set nd rfl (by first | exact .inl rfl | exact .inr rfl) (se_call (md := [false]) L.d__law_chained t.g__law_chained hr1 tk rfl (sa_cons (se_call (md := [true]) L.d__law_volume t.g__law_volume hr1 tk rfl (sa_cons (se_call (md := [false]) L.d__law_dig t.g__law_dig hr1 tk rfl (sa_cons (se_call (md := [false, false]) L.d__law_cell t.g__law_cell hr1 tk rfl (sa_cons (se_name (pv 0)) (sa_cons (se_const pe_int rfl) sa_nil))) sa_nil)) sa_nil)) sa_nil)))
    (sb_cons (ss_set nd rfl (by first | exact .inl rfl | exact .inr rfl) (se_tup (sa_cons (se_name (pv 1)) (sa_cons (se_call (md := [false]) L.d__law_rounds t.g__law_rounds hr1 tk rfl (sa_cons (se_name (pv 1)) sa_nil)) sa_nil))))
    (sb_cons (ss_wipe (ss_for (passes_of rfl) rfl (si_range2 rfl t.b_range (sa_cons (se_const pe_int rfl) (sa_cons (se_blt (call_max2 rfl) bf_max rfl t.b_max bt_max (sa_cons (se_const pe_int rfl) (sa_cons (se_blt (call_min2 rfl) bf_min rfl t.b_min bt_min (sa_cons (se_const pe_int rfl) (sa_cons (se_blt call_lenAll bf_len rfl t.b_len bt_len (sa_cons (se_name (pv 0)) sa_nil)) sa_nil))) sa_nil))) sa_nil))) (sg_name nd rfl (by first | exact .inl rfl | exact .inr rfl)) (sb_wipe (sb_cons (ss_set nd rfl (by first | exact .inl rfl | exact .inr rfl) (se_call (md := [false]) L.d__law_dig t.g__law_dig hr1 tk rfl (sa_cons (se_call (md := [false, false]) L.d__law_cell t.g__law_cell hr1 tk rfl (sa_cons (se_name (pv 0)) (sa_cons (se_name (pv 3)) sa_nil))) sa_nil)))
    (sb_cons (ss_set nd rfl (by first | exact .inl rfl | exact .inr rfl) (se_ix (hu1 hr) (se_op op_addAll opf_add (se_bty (call_list2 rfl) bf_list2 rfl t.b_list bt_list (sa_cons (se_ix (hu1 hr) (se_name (pv 2)) (se_const pe_int rfl)) sa_nil)) (se_lst (sa_cons (se_const pe_str lit_numL) sa_nil))) (se_call (md := [true, false]) L.d__law_next t.g__law_next hr1 tk rfl (sa_cons (se_name (pv 4)) (sa_cons (se_op op_addAll opf_add (se_blt call_lenAll bf_len rfl t.b_len bt_len (sa_cons (se_ix (hu1 hr) (se_name (pv 2)) (se_const pe_int rfl)) sa_nil)) (se_const pe_int rfl)) sa_nil)))))
    (sb_cons (ss_set nd rfl (by first | exact .inl rfl | exact .inr rfl) (se_call (md := [false, false, true, false]) L.d__law_item t.g__law_item hr1 tk rfl (sa_cons (se_name (pv 2)) (sa_cons (se_name (pv 5)) (sa_cons (se_name (pv 4)) (sa_cons (se_call (md := [true, false]) L.d__law_next t.g__law_next hr1 tk rfl (sa_cons (se_name (pv 4)) (sa_cons (se_const pe_int rfl) sa_nil))) sa_nil))))))
    (sb_cons (ss_set nd rfl (by first | exact .inl rfl | exact .inr rfl) (se_call (md := [true, false]) L.d__law_next t.g__law_next hr1 tk rfl (sa_cons (se_name (pv 4)) (sa_cons (se_const pe_int rfl) sa_nil))))
    (sb_cons (ss_if (st_pw (sw_or (st_cmp (op_eq2 (hu64 hr)) opf_eq2 (se_call (md := [true, false]) L.d__law_next t.g__law_next hr1 tk rfl (sa_cons (se_name (pv 4)) (sa_cons (se_const pe_int rfl) sa_nil))) (se_const pe_int rfl) rfl) (sw_or1 (st_cmp op_gt opf_gt (se_blt call_lenAll bf_len rfl t.b_len bt_len (sa_cons (se_call (md := [false]) L.d__law_value_text t.g__law_value_text hr1 tk rfl (sa_cons (se_name (pv 6)) sa_nil)) sa_nil)) (se_const pe_int rfl) rfl)))) (sb_one (ss_par (i := 5) (j := 6) rfl nd rfl rfl (by decide) rfl rfl (sa_cons (se_ix (hu1 hr) (se_ix (hu1 hr) (se_name (pv 1)) (se_neg (se_const pe_int rfl))) (se_const pe_int rfl)) (sa_cons (se_call (md := [false, false]) L.d__law_chain t.g__law_chain hr1 tk rfl (sa_cons (se_name (pv 1)) (sa_cons (se_name (pv 7)) sa_nil))) sa_nil)) (by rfl))) sb_nil)
    (sb_cons (ss_set nd rfl (by first | exact .inl rfl | exact .inr rfl) (se_call (md := [false]) L.d__law_value_text t.g__law_value_text hr1 tk rfl (sa_cons (se_name (pv 6)) sa_nil)))
    (sb_cons (ss_if (st_not (st_val (se_call (md := [false, false]) L.d__law_alike t.g__law_alike hr1 tk rfl (sa_cons (se_call (md := [false]) L.d_written_value t.g_written_value hr1 tk rfl (sa_cons (se_name (pv 6)) sa_nil)) (sa_cons (se_name (pv 8)) sa_nil))))) (sb_one (ss_ret (se_const pe_bl rfl))) sb_nil)
    (sb_cons (ss_wipe (ss_for (passes_of rfl) rfl (si_range1 rfl t.b_range (sa_cons (se_const pe_int rfl) sa_nil)) (sg_name nd rfl (by first | exact .inl rfl | exact .inr rfl)) (sb_wipe (sb_one (ss_if (st_not (st_val (se_call (md := [false, false]) L.d__law_alike t.g__law_alike hr1 tk rfl (sa_cons (se_call (md := [false, false, false]) L.d_read_value t.g_read_value hr1 tk rfl (sa_cons (se_name (pv 1)) (sa_cons (se_name (pv 5)) (sa_cons (se_name (pv 8)) sa_nil)))) (sa_cons (se_name (pv 6)) sa_nil))))) (sb_one (ss_ret (se_const pe_bl rfl))) sb_nil)))))
    (sb_cons (ss_set nd rfl (by first | exact .inl rfl | exact .inr rfl) (se_op op_sub opf_sub (se_op op_sub opf_sub (se_op op_mul2 opf_mul2 (se_op op_pow opf_pow (se_const pe_int rfl) (se_const pe_int rfl)) (se_op op_pow opf_pow (se_const pe_int rfl) (se_const pe_int rfl))) (se_const pe_int rfl)) (se_call (md := [true, false]) L.d__law_next t.g__law_next hr1 tk rfl (sa_cons (se_name (pv 4)) (sa_cons (se_op op_pow opf_pow (se_const pe_int rfl) (se_const pe_int rfl)) sa_nil)))))
    (sb_one (ss_wipe (ss_for (passes_of rfl) rfl (si_iter (se_lst (sa_cons (se_name (pv 10)) (sa_cons (se_neg (se_name (pv 10))) sa_nil)))) (sg_name nd rfl (by first | exact .inl rfl | exact .inr rfl)) (sb_wipe (sb_one (ss_if (st_not (st_val (se_call (md := [false, false]) L.d__law_alike t.g__law_alike hr1 tk rfl (sa_cons (se_call (md := [false, false, false]) L.d_read_value t.g_read_value hr1 tk rfl (sa_cons (se_name (pv 1)) (sa_cons (se_const pe_str lit_numL) (sa_cons (se_bty call_str_int bf_str rfl t.b_str bt_str (sa_cons (se_name (pv 11)) sa_nil)) sa_nil)))) (sa_cons (se_name (pv 11)) sa_nil))))) (sb_one (ss_ret (se_const pe_bl rfl))) sb_nil))))))))))))))))))
    (sb_one (ss_ret (se_const pe_bl rfl))))))
theorem lv (t : Tx K mg) (c : He.SaysD fa fn K) : ∀ n, Lv P w K mg base (2 * n) n := by
  obtain ⟨q0, F0⟩ := c.def_ 0 (d := d_is_whole) rfl
  have B0 : Binds K q0 P_is_whole [] := F0.bindsN fun _ _ _ _ _ _ us hl => match us, hl with | [_], _ => rfl
  obtain ⟨q1, F1⟩ := c.def_ 1 (d := d_all_makes) rfl
  have B1 : Binds K q1 P_all_makes [] := F1.bindsN fun _ _ _ _ _ _ us hl => match us, hl with | [_, _], _ => rfl
  obtain ⟨q2, F2⟩ := c.def_ 2 (d := d_is_value) rfl
  have B2 : Binds K q2 P_is_value [] := F2.bindsN fun _ _ _ _ _ _ us hl => match us, hl with | [_, _, _], _ => rfl
  obtain ⟨q3, F3⟩ := c.def_ 3 (d := d_are_values) rfl
  have B3 : Binds K q3 P_are_values [] := F3.bindsN fun _ _ _ _ _ _ us hl => match us, hl with | [_, _, _], _ => rfl
  obtain ⟨q4, F4⟩ := c.def_ 4 (d := d_in_brackets) rfl
  have B4 : Binds K q4 P_in_brackets [] := F4.bindsN fun _ _ _ _ _ _ us hl => match us, hl with | [_, _], _ => rfl
  obtain ⟨q5, F5⟩ := c.def_ 5 (d := d_written_value) rfl
  have B5 : Binds K q5 P_written_value [] := F5.bindsN fun _ _ _ _ _ _ us hl => match us, hl with | [_], _ => rfl
  obtain ⟨q6, F6⟩ := c.def_ 6 (d := d_Strip___init__) rfl
  have B6 : Binds K q6 P_Strip___init__ [] := F6.bindsN fun _ _ _ _ _ _ us hl => match us, hl with | [_, _], _ => rfl
  obtain ⟨q7, F7⟩ := c.def_ 7 (d := d_Strip_is_through) rfl
  have B7 : Binds K q7 P_Strip_is_through [] := F7.bindsN fun _ _ _ _ _ _ us hl => match us, hl with | [_], _ => rfl
  obtain ⟨q8, F8⟩ := c.def_ 8 (d := d_Strip_meets) rfl
  have B8 : Binds K q8 P_Strip_meets [] := F8.bindsN fun _ _ _ _ _ _ us hl => match us, hl with | [_, _], _ => rfl
  obtain ⟨q9, F9⟩ := c.def_ 9 (d := d_Strip_passes) rfl
  have B9 : Binds K q9 P_Strip_passes [] := F9.bindsN fun _ _ _ _ _ _ us hl => match us, hl with | [_, _], _ => rfl
  obtain ⟨q10, F10⟩ := c.def_ 10 (d := d_Strip_must_pass) rfl
  have B10 : Binds K q10 P_Strip_must_pass [] := F10.bindsN fun _ _ _ _ _ _ us hl => match us, hl with | [_, _], _ => rfl
  obtain ⟨q11, F11⟩ := c.def_ 11 (d := d_Strip_stretch_of) rfl
  have B11 : Binds K q11 P_Strip_stretch_of [] := F11.bindsN fun _ _ _ _ _ _ us hl => match us, hl with | [_, _], _ => rfl
  obtain ⟨q12, F12⟩ := c.def_ 12 (d := d_Strip_number_next) rfl
  have B12 : Binds K q12 P_Strip_number_next [] := F12.bindsN fun _ _ _ _ _ _ us hl => match us, hl with | [_], _ => rfl
  obtain ⟨q13, F13⟩ := c.def_ 13 (d := d_Strip_ends_well) rfl
  have B13 : Binds K q13 P_Strip_ends_well [] := F13.bindsN fun _ _ _ _ _ _ us hl => match us, hl with | [_], _ => rfl
  obtain ⟨q14, F14⟩ := c.def_ 14 (d := d_value_read) rfl
  have B14 : Binds K q14 P_value_read [] := F14.bindsN fun _ _ _ _ _ _ us hl => match us, hl with | [_, _], _ => rfl
  obtain ⟨q15, F15⟩ := c.def_ 15 (d := d_strip_of) rfl
  have B15 : Binds K q15 P_strip_of [] := F15.bindsN fun _ _ _ _ _ _ us hl => match us, hl with | [_], _ => rfl
  obtain ⟨q16, F16⟩ := c.def_ 16 (d := d_read_value) rfl
  have B16 : Binds K q16 P_read_value [] := F16.bindsN fun _ _ _ _ _ _ us hl => match us, hl with | [_, _, _], _ => rfl
  obtain ⟨q17, F17⟩ := c.def_ 17 (d := d__law_cell) rfl
  have B17 : Binds K q17 P__law_cell [] := F17.bindsN fun _ _ _ _ _ _ us hl => match us, hl with | [_, _], _ => rfl
  obtain ⟨q18, F18⟩ := c.def_ 18 (d := d__law_dig) rfl
  have B18 : Binds K q18 P__law_dig [] := F18.bindsN fun _ _ _ _ _ _ us hl => match us, hl with | [_], _ => rfl
  obtain ⟨q19, F19⟩ := c.def_ 19 (d := d__law_next) rfl
  have B19 : Binds K q19 P__law_next [] := F19.bindsN fun _ _ _ _ _ _ us hl => match us, hl with | [_, _], _ => rfl
  obtain ⟨q20, F20⟩ := c.def_ 20 (d := d__law_calls) rfl
  have B20 : Binds K q20 P__law_calls [] := F20.bindsN fun _ _ _ _ _ _ us hl => match us, hl with | [_, _], _ => rfl
  obtain ⟨q21, F21⟩ := c.def_ 21 (d := d__law_volume) rfl
  have B21 : Binds K q21 P__law_volume [] := F21.bindsN fun _ _ _ _ _ _ us hl => match us, hl with | [_], _ => rfl
  obtain ⟨q22, F22⟩ := c.def_ 22 (d := d__law_rounds) rfl
  have B22 : Binds K q22 P__law_rounds [] := F22.bindsN fun _ _ _ _ _ _ us hl => match us, hl with | [_], _ => rfl
  obtain ⟨q23, F23⟩ := c.def_ 23 (d := d__law_all_makes) rfl
  have B23 : Binds K q23 P__law_all_makes [] := F23.bindsN fun _ _ _ _ _ _ us hl => match us, hl with | [_, _], _ => rfl
  obtain ⟨q24, F24⟩ := c.def_ 24 (d := d__law_alive) rfl
  have B24 : Binds K q24 P__law_alive [] := F24.bindsN fun _ _ _ _ _ _ us hl => match us, hl with | [_, _], _ => rfl
  obtain ⟨q25, F25⟩ := c.def_ 25 (d := d__law_alike) rfl
  have B25 : Binds K q25 P__law_alike [] := F25.bindsN fun _ _ _ _ _ _ us hl => match us, hl with | [_, _], _ => rfl
  obtain ⟨q26, F26⟩ := c.def_ 26 (d := d__law_bracketed) rfl
  have B26 : Binds K q26 P__law_bracketed [] := F26.bindsN fun _ _ _ _ _ _ us hl => match us, hl with | [_, _], _ => rfl
  obtain ⟨q27, F27⟩ := c.def_ 27 (d := d__law_value_text) rfl
  have B27 : Binds K q27 P__law_value_text [] := F27.bindsN fun _ _ _ _ _ _ us hl => match us, hl with | [_], _ => rfl
  obtain ⟨q28, F28⟩ := c.def_ 28 (d := d__law_number) rfl
  have B28 : Binds K q28 P__law_number [] := F28.bindsN fun _ _ _ _ _ _ us hl => match us, hl with | [_], _ => rfl
  obtain ⟨q29, F29⟩ := c.def_ 29 (d := d__law_item) rfl
  have B29 : Binds K q29 P__law_item [] := F29.bindsN fun _ _ _ _ _ _ us hl => match us, hl with | [_, _, _, _], _ => rfl
  obtain ⟨q30, F30⟩ := c.def_ 30 (d := d__law_chained) rfl
  have B30 : Binds K q30 P__law_chained [] := F30.bindsN fun _ _ _ _ _ _ us hl => match us, hl with | [_], _ => rfl
  obtain ⟨q31, F31⟩ := c.def_ 31 (d := d__law_chain) rfl
  have B31 : Binds K q31 P__law_chain [] := F31.bindsN fun _ _ _ _ _ _ us hl => match us, hl with | [_, _], _ => rfl
  obtain ⟨q32, F32⟩ := c.def_ 32 (d := d_law) rfl
  have B32 : Binds K q32 P_law [] := F32.bindsN fun _ _ _ _ _ _ us hl => match us, hl with | [_], _ => rfl
  intro n
  induction n with
  | zero => exact ⟨⟨⟨_, _, FnOk.zero, B0⟩, F0.kp⟩, ⟨⟨_, _, FnOk.zero, B1⟩, F1.kp⟩, ⟨⟨_, _, FnOk.zero, B2⟩, F2.kp⟩, ⟨⟨_, _, FnOk.zero, B3⟩, F3.kp⟩, ⟨⟨_, _, FnOk.zero, B4⟩, F4.kp⟩, ⟨⟨_, _, FnOk.zero, B5⟩, F5.kp⟩, ⟨⟨_, _, FnOk.zero, B6⟩, F6.kp⟩, ⟨⟨_, _, FnOk.zero, B7⟩, F7.kp⟩, ⟨⟨_, _, FnOk.zero, B8⟩, F8.kp⟩, ⟨⟨_, _, FnOk.zero, B9⟩, F9.kp⟩, ⟨⟨_, _, FnOk.zero, B10⟩, F10.kp⟩, ⟨⟨_, _, FnOk.zero, B11⟩, F11.kp⟩, ⟨⟨_, _, FnOk.zero, B12⟩, F12.kp⟩, ⟨⟨_, _, FnOk.zero, B13⟩, F13.kp⟩, ⟨⟨_, _, FnOk.zero, B14⟩, F14.kp⟩, ⟨⟨_, _, FnOk.zero, B15⟩, F15.kp⟩, ⟨⟨_, _, FnOk.zero, B16⟩, F16.kp⟩, ⟨⟨_, _, FnOk.zero, B17⟩, F17.kp⟩, ⟨⟨_, _, FnOk.zero, B18⟩, F18.kp⟩, ⟨⟨_, _, FnOk.zero, B19⟩, F19.kp⟩, ⟨⟨_, _, FnOk.zero, B20⟩, F20.kp⟩, ⟨⟨_, _, FnOk.zero, B21⟩, F21.kp⟩, ⟨⟨_, _, FnOk.zero, B22⟩, F22.kp⟩, ⟨⟨_, _, FnOk.zero, B23⟩, F23.kp⟩, ⟨⟨_, _, FnOk.zero, B24⟩, F24.kp⟩, ⟨⟨_, _, FnOk.zero, B25⟩, F25.kp⟩, ⟨⟨_, _, FnOk.zero, B26⟩, F26.kp⟩, ⟨⟨_, _, FnOk.zero, B27⟩, F27.kp⟩, ⟨⟨_, _, FnOk.zero, B28⟩, F28.kp⟩, ⟨⟨_, _, FnOk.zero, B29⟩, F29.kp⟩, ⟨⟨_, _, FnOk.zero, B30⟩, F30.kp⟩, ⟨⟨_, _, FnOk.zero, B31⟩, F31.kp⟩, ⟨⟨_, _, FnOk.zero, B32⟩, F32.kp⟩⟩
  | succ n L => exact ⟨⟨⟨_, _, o_is_whole t L F0, B0⟩, F0.kp⟩, ⟨⟨_, _, o_all_makes t L F1, B1⟩, F1.kp⟩, ⟨⟨_, _, o_is_value t L F2, B2⟩, F2.kp⟩, ⟨⟨_, _, o_are_values t L F3, B3⟩, F3.kp⟩, ⟨⟨_, _, o_in_brackets t L F4, B4⟩, F4.kp⟩, ⟨⟨_, _, o_written_value t L F5, B5⟩, F5.kp⟩, ⟨⟨_, _, o_Strip___init__ t L F6, B6⟩, F6.kp⟩, ⟨⟨_, _, o_Strip_is_through t L F7, B7⟩, F7.kp⟩, ⟨⟨_, _, o_Strip_meets t L F8, B8⟩, F8.kp⟩, ⟨⟨_, _, o_Strip_passes t L F9, B9⟩, F9.kp⟩, ⟨⟨_, _, o_Strip_must_pass t L F10, B10⟩, F10.kp⟩, ⟨⟨_, _, o_Strip_stretch_of t L F11, B11⟩, F11.kp⟩, ⟨⟨_, _, o_Strip_number_next t L F12, B12⟩, F12.kp⟩, ⟨⟨_, _, o_Strip_ends_well t L F13, B13⟩, F13.kp⟩, ⟨⟨_, _, o_value_read t L F14, B14⟩, F14.kp⟩, ⟨⟨_, _, o_strip_of t L F15, B15⟩, F15.kp⟩, ⟨⟨_, _, o_read_value t L F16, B16⟩, F16.kp⟩, ⟨⟨_, _, o__law_cell t L F17, B17⟩, F17.kp⟩, ⟨⟨_, _, o__law_dig t L F18, B18⟩, F18.kp⟩, ⟨⟨_, _, o__law_next t L F19, B19⟩, F19.kp⟩, ⟨⟨_, _, o__law_calls t L F20, B20⟩, F20.kp⟩, ⟨⟨_, _, o__law_volume t L F21, B21⟩, F21.kp⟩, ⟨⟨_, _, o__law_rounds t L F22, B22⟩, F22.kp⟩, ⟨⟨_, _, o__law_all_makes t L F23, B23⟩, F23.kp⟩, ⟨⟨_, _, o__law_alive t L F24, B24⟩, F24.kp⟩, ⟨⟨_, _, o__law_alike t L F25, B25⟩, F25.kp⟩, ⟨⟨_, _, o__law_bracketed t L F26, B26⟩, F26.kp⟩, ⟨⟨_, _, o__law_value_text t L F27, B27⟩, F27.kp⟩, ⟨⟨_, _, o__law_number t L F28, B28⟩, F28.kp⟩, ⟨⟨_, _, o__law_item t L F29, B29⟩, F29.kp⟩, ⟨⟨_, _, o__law_chained t L F30, B30⟩, F30.kp⟩, ⟨⟨_, _, o__law_chain t L F31, B31⟩, F31.kp⟩, ⟨⟨_, _, o_law t L F32, B32⟩, F32.kp⟩⟩
end
theorem tx {K : PySem.W.Frag} {h : Heap} {mg : Str → Option Value} (X : K.In h) (G : h.Ns mainGlobals mg) (c : He.SaysD fa fn K) : Tx K mg where
  b_all := He.free_ok X G (c.fact 0 (f := .free "all"))
  b_bool := He.free_ok X G (c.fact 1 (f := .free "bool"))
  b_int := He.free_ok X G (c.fact 2 (f := .free "int"))
  b_isinstance := He.free_ok X G (c.fact 3 (f := .free "isinstance"))
  b_len := He.free_ok X G (c.fact 4 (f := .free "len"))
  b_list := He.free_ok X G (c.fact 5 (f := .free "list"))
  b_max := He.free_ok X G (c.fact 6 (f := .free "max"))
  b_min := He.free_ok X G (c.fact 7 (f := .free "min"))
  b_range := He.free_ok X G (c.fact 8 (f := .free "range"))
  b_str := He.free_ok X G (c.fact 9 (f := .free "str"))
  b_tuple := He.free_ok X G (c.fact 10 (f := .free "tuple"))
  b_zip := He.free_ok X G (c.fact 11 (f := .free "zip"))
  c_NUM := He.str_ok X G (c.fact 12 (f := .str "NUM" "num"))
  c_LETTERS := He.str_ok X G (c.fact 13 (f := .str "LETTERS" "abcdefghijklmnopqrstuvwxyz"))
  c_FIGURES := He.str_ok X G (c.fact 14 (f := .str "FIGURES" "0123456789"))
  c_MOST_FIGURES := He.int_ok X G (c.fact 15 (f := .int "MOST_FIGURES" 70))
  c_DEEPEST_VALUE := He.int_ok X G (c.fact 16 (f := .int "DEEPEST_VALUE" 30))
  g_is_whole := He.glo_ok X G (c.fact 17 (f := .glo "is_whole"))
  g_all_makes := He.glo_ok X G (c.fact 18 (f := .glo "all_makes"))
  g_is_value := He.glo_ok X G (c.fact 19 (f := .glo "is_value"))
  g_are_values := He.glo_ok X G (c.fact 20 (f := .glo "are_values"))
  g_in_brackets := He.glo_ok X G (c.fact 21 (f := .glo "in_brackets"))
  g_written_value := He.glo_ok X G (c.fact 22 (f := .glo "written_value"))
  me_Strip___init__ := He.meth_ok (c.fact 23 (f := .meth "Strip" "__init__"))
  me_Strip_is_through := He.meth_ok (c.fact 24 (f := .meth "Strip" "is_through"))
  me_Strip_meets := He.meth_ok (c.fact 25 (f := .meth "Strip" "meets"))
  me_Strip_passes := He.meth_ok (c.fact 26 (f := .meth "Strip" "passes"))
  me_Strip_must_pass := He.meth_ok (c.fact 27 (f := .meth "Strip" "must_pass"))
  me_Strip_stretch_of := He.meth_ok (c.fact 28 (f := .meth "Strip" "stretch_of"))
  me_Strip_number_next := He.meth_ok (c.fact 29 (f := .meth "Strip" "number_next"))
  me_Strip_ends_well := He.meth_ok (c.fact 30 (f := .meth "Strip" "ends_well"))
  g_value_read := He.glo_ok X G (c.fact 31 (f := .glo "value_read"))
  g_strip_of := He.glo_ok X G (c.fact 32 (f := .glo "strip_of"))
  g_read_value := He.glo_ok X G (c.fact 33 (f := .glo "read_value"))
  g__law_cell := He.glo_ok X G (c.fact 34 (f := .glo "_law_cell"))
  g__law_dig := He.glo_ok X G (c.fact 35 (f := .glo "_law_dig"))
  g__law_next := He.glo_ok X G (c.fact 36 (f := .glo "_law_next"))
  g__law_calls := He.glo_ok X G (c.fact 37 (f := .glo "_law_calls"))
  g__law_volume := He.glo_ok X G (c.fact 38 (f := .glo "_law_volume"))
  g__law_rounds := He.glo_ok X G (c.fact 39 (f := .glo "_law_rounds"))
  g__law_all_makes := He.glo_ok X G (c.fact 40 (f := .glo "_law_all_makes"))
  g__law_alive := He.glo_ok X G (c.fact 41 (f := .glo "_law_alive"))
  g__law_alike := He.glo_ok X G (c.fact 42 (f := .glo "_law_alike"))
  g__law_bracketed := He.glo_ok X G (c.fact 43 (f := .glo "_law_bracketed"))
  g__law_value_text := He.glo_ok X G (c.fact 44 (f := .glo "_law_value_text"))
  g__law_number := He.glo_ok X G (c.fact 45 (f := .glo "_law_number"))
  g__law_item := He.glo_ok X G (c.fact 46 (f := .glo "_law_item"))
  g__law_chained := He.glo_ok X G (c.fact 47 (f := .glo "_law_chained"))
  g__law_chain := He.glo_ok X G (c.fact 48 (f := .glo "_law_chain"))
  g_law := He.glo_ok X G (c.fact 49 (f := .glo "law"))
  g_Strip := He.glo_ok X G (c.fact 50 (f := .glo "Strip"))
  cls_Strip := He.cls_ok (c.fact 51 (f := .cls "Strip"))
  mk_Strip := He.mkr_ok (c.fact 52 (f := .mkr "Strip"))
  na_Strip_signs := He.noat_ok (c.fact 53 (f := .noat "Strip" "signs"))
  na_Strip_spot := He.noat_ok (c.fact 54 (f := .noat "Strip" "spot"))
  g_CourtError := He.glo_ok X G (c.fact 55 (f := .glo "CourtError"))
  x_CourtError := (He.exc_ok (c.fact 56 (f := .exc "CourtError"))).1
  xk_CourtError := (He.exc_ok (c.fact 56 (f := .exc "CourtError"))).2.1
  xs_CourtError := (He.exc_ok (c.fact 56 (f := .exc "CourtError"))).2.2.1
  xt_CourtError := (He.exc_ok (c.fact 56 (f := .exc "CourtError"))).2.2.2
  g_NoText := He.glo_ok X G (c.fact 57 (f := .glo "NoText"))
  x_NoText := (He.exc_ok (c.fact 58 (f := .exc "NoText"))).1
  xk_NoText := (He.exc_ok (c.fact 58 (f := .exc "NoText"))).2.1
  xs_NoText := (He.exc_ok (c.fact 58 (f := .exc "NoText"))).2.2.1
  xt_NoText := (He.exc_ok (c.fact 58 (f := .exc "NoText"))).2.2.2
end Sc.Law

section
set_option Elab.async false
set_option linter.all false
set_option autoImplicit false
set_option maxRecDepth 100000
set_option maxHeartbeats 2000000
open PySem L2 Sc
namespace Sc.Law
local macro_rules | `(tactic| wp_walk using $ts,*) => `(tactic| simp (config := { decide := false }) (disch := (with_reducible refine Sz.mk ?_; first | assumption | omega | ((try simp only [List.length_append, List.length_cons, List.length_nil, List.length_map, List.length_replicate, O.toD, S_len]); omega))) only [fnRun, seqM, ifS, orT, andT, notT, andM, orM, notM, ifM, testM, viewB, view, M.bind, M.pure, M.stuck, nameM, constM, bltM, viewAll, consA, nilA, retM, opM, negM, chainM, isiM, tyName, strMM, tupM, lstM, freezeAll, freeze, setM, exprM, callM, callF, prep, lend, backM, wbAll, Rt.rv, iosOf, Arg.sl, List.map_cons, List.map_nil, List.length_cons, List.length_nil, Nat.zero_add, Nat.reduceAdd, Nat.reduceSub, Nat.reduceLT, Nat.reduceEqDiff, List.replicate_succ, List.replicate_zero, List.cons_append, List.nil_append, List.getElem?_cons_zero, List.getElem?_cons_succ, List.set_cons_zero, List.set_cons_succ, methM, isObj, fldM, dget, putFM, objAt, putD, slOf, mutM, lstAt, raiseM, skipM, O.toD, leF, ltF, gtF, geF, subF, iiF, if_true, if_false, Bool.false_eq_true, len_l, len_t, len_d, len_scr, len_s,  Bool.not_true, Bool.not_false, decide_true, decide_false, kit_str_str, kit_str_tuple, kit_str_int, kit_str_bool, kit_int_str, kit_int_int, kit_int_bool, kit_int_tuple, kit_bool_int, kit_bool_bool, kit_bool_tuple, kit_bool_str, kit_tuple_tuple, kit_tuple_str, kit_tuple_int, kit_tuple_bool, kit_none_tuple, kit_none_str, kit_none_int, kit_none_bool, kit_list_tuple, kit_list_str, kit_list_int, nameG, tupGn, consG, nilG, Nat.lt_add_one, ixL, ixT, ixSc, ixAz, ixSS, appendF, Option.map_some, Option.map_none, wipeE, restE, forR, lcW, lcF, lcS, forS, forT, wipeS, extendF, yesT, int_i, int_b, putM, dicAt, putLM, rng1M, addF_ll, addF_ii, addF_tt, tupleF, sliceM, intM, dOpt, eqO_i, neO_i, eqO_S, neO_S, eqO_b, list2_l, list2_t, list2_d, inOF, Bool.false_xor, Bool.true_xor, Bool.true_and, Bool.and_true, Bool.false_and, Bool.and_false, Bool.true_or, Bool.false_or, Bool.or_true, Bool.or_false, ifLt, ifLe, at0, at1, at2, at3, ix0, ix1, ix2, ix3, ne_ss, ne_ps, kn_1, kn_2, kn_3, kn_4, kn_5, kn_6, kn_7, S_cps, mk_S, inF_sign, pow18, pow60, pow30, pow12, pow10, sl_tail, add_md, add_dmd, addSS, modZ, fdivZ, mulZR, mulZL, mulZ_l, S_len, $[$ts:term],*])
/-! the law's pool -/
/-- a pool: what is left of a great cell, the cell, how often it was stirred -/
def Pl (p : List D) : Prop := ∃ a b c : Int, p = [.int a, .int b, .int c]
theorem t_next {n : Nat} (hn : 1 ≤ n) {p : List D} (h : Pl p) {base : Int} (hb : 0 < base) (hb2 : base < 2 ^ 200) :
    ∃ (d : Int) (p' : List D), 0 ≤ d ∧ d < base ∧ Pl p' ∧ T n ._law_next [.io (.lst p), .fz (.int base)] = .ret (.fz (.int d)) [.io (.lst p'), .fz (.int base)] := by
  obtain ⟨n, rfl, _⟩ := up1 hn
  obtain ⟨a, b, c, rfl⟩ := h
  have hh : ∀ x : Int, x % 998244353 < 2 ^ 64 := fun x => by have := Int.emod_lt_of_pos x (show (0 : Int) < 998244353 by decide); omega
  have hh0 : ∀ x : Int, -(2 ^ 64) < x % 998244353 := fun x => by have := Int.emod_nonneg x (show (998244353 : Int) ≠ 0 by decide); omega
  have hi : ∀ x : Int, x % 1000000007 < 1000000007 := fun x => Int.emod_lt_of_pos x (by decide)
  have hi0 : ∀ x : Int, 0 ≤ x % 1000000007 := fun x => Int.emod_nonneg x (by decide)
  by_cases ha : 0 < a
  · refine ⟨a % base, [.int (a / base), .int b, .int c], Int.emod_nonneg _ (by omega), Int.emod_lt_of_pos _ hb, ⟨_, _, _, rfl⟩, ?_⟩
    show fnRun 5 (b__law_next (T n)) _ = _
    unfold b__law_next
    have e := fdiv2 a hb hb2
    have e2 := mod2 a hb
    wp_walk using ha, e, e2
  · let near := (b + 7919 * (c + 1)) % 1000000007
    let stir := (near + 11) * (near + 48271) % 998244353
    refine ⟨stir * stir % 2147483647 / 8 % base, [.int a, .int b, .int (c + 1)], Int.emod_nonneg _ (by omega), Int.emod_lt_of_pos _ hb, ⟨_, _, _, rfl⟩, ?_⟩
    show fnRun 5 (b__law_next (T n)) _ = _
    unfold b__law_next
    have e1 : mulF2 (.int 7919) (.int (c + 1)) = some (.fz (.int (7919 * (c + 1)))) := mul2L _ (by decide) (by decide)
    have e2 : modF (.int (b + 7919 * (c + 1))) (.int 1000000007) = some (.fz (.int near)) := mod2 _ (by decide)
    have e3 : mulF2 (.int (near + 11)) (.int (near + 48271)) = some (.fz (.int ((near + 11) * (near + 48271)))) := mul2R _ (by have := hi0 (b + 7919 * (c + 1)); show -(2 ^ 64) < near + 48271; omega) (by have := hi (b + 7919 * (c + 1)); show near + 48271 < 2 ^ 64; omega)
    have e4 : modF (.int ((near + 11) * (near + 48271))) (.int 998244353) = some (.fz (.int stir)) := mod2 _ (by decide)
    have e5 : mulF2 (.int stir) (.int stir) = some (.fz (.int (stir * stir))) := mul2R _ (hh0 _) (hh _)
    have e6 : modF (.int (stir * stir)) (.int 2147483647) = some (.fz (.int (stir * stir % 2147483647))) := mod2 _ (by decide)
    have e7 : fdivF2 (.int (stir * stir % 2147483647)) (.int 8) = some (.fz (.int (stir * stir % 2147483647 / 8))) := fdiv2 _ (by decide) (by decide)
    have e8 : modF (.int (stir * stir % 2147483647 / 8)) (.int base) = some (.fz (.int (stir * stir % 2147483647 / 8 % base))) := mod2 _ hb
    clear_value stir near
    wp_walk using ha, e1, e2, e3, e4, e5, e6, e7, e8

end Sc.Law
end
section
set_option Elab.async false
set_option linter.all false
set_option autoImplicit false
set_option maxRecDepth 100000
set_option maxHeartbeats 2000000
open PySem L2 Sc
namespace Sc.Law
local macro_rules | `(tactic| wp_walk using $ts,*) => `(tactic| simp (config := { decide := false }) (disch := (with_reducible refine Sz.mk ?_; first | assumption | omega | ((try simp only [List.length_append, List.length_cons, List.length_nil, List.length_map, List.length_replicate, O.toD, S_len]); omega))) only [fnRun, seqM, ifS, orT, andT, notT, andM, orM, notM, ifM, testM, viewB, view, M.bind, M.pure, M.stuck, nameM, constM, bltM, viewAll, consA, nilA, retM, opM, negM, chainM, isiM, tyName, strMM, tupM, lstM, freezeAll, freeze, setM, exprM, callM, callF, prep, lend, backM, wbAll, Rt.rv, iosOf, Arg.sl, List.map_cons, List.map_nil, List.length_cons, List.length_nil, Nat.zero_add, Nat.reduceAdd, Nat.reduceSub, Nat.reduceLT, Nat.reduceEqDiff, List.replicate_succ, List.replicate_zero, List.cons_append, List.nil_append, List.getElem?_cons_zero, List.getElem?_cons_succ, List.set_cons_zero, List.set_cons_succ, methM, isObj, fldM, dget, putFM, objAt, putD, slOf, mutM, lstAt, raiseM, skipM, O.toD, leF, ltF, gtF, geF, subF, iiF, if_true, if_false, Bool.false_eq_true, len_l, len_t, len_d, len_scr, len_s,  Bool.not_true, Bool.not_false, decide_true, decide_false, kit_str_str, kit_str_tuple, kit_str_int, kit_str_bool, kit_int_str, kit_int_int, kit_int_bool, kit_int_tuple, kit_bool_int, kit_bool_bool, kit_bool_tuple, kit_bool_str, kit_tuple_tuple, kit_tuple_str, kit_tuple_int, kit_tuple_bool, kit_none_tuple, kit_none_str, kit_none_int, kit_none_bool, kit_list_tuple, kit_list_str, kit_list_int, nameG, tupGn, consG, nilG, Nat.lt_add_one, ixL, ixT, ixSc, ixAz, ixSS, appendF, Option.map_some, Option.map_none, wipeE, restE, forR, lcW, lcF, lcS, forS, forT, wipeS, extendF, yesT, int_i, int_b, putM, dicAt, putLM, rng1M, addF_ll, addF_ii, addF_tt, tupleF, sliceM, intM, dOpt, eqO_i, neO_i, eqO_S, neO_S, eqO_b, list2_l, list2_t, list2_d, inOF, Bool.false_xor, Bool.true_xor, Bool.true_and, Bool.and_true, Bool.false_and, Bool.and_false, Bool.true_or, Bool.false_or, Bool.or_true, Bool.or_false, ifLt, ifLe, at0, at1, at2, at3, ix0, ix1, ix2, ix3, ne_ss, ne_ps, kn_1, kn_2, kn_3, kn_4, kn_5, kn_6, kn_7, S_cps, mk_S, inF_sign, pow18, pow60, pow30, pow12, pow10, sl_tail, add_md, add_dmd, addSS, modZ, fdivZ, mulZR, mulZL, mulZ_l, S_len, $[$ts:term],*])
/-! a cell of the script, its pool -/
theorem cell_walk_1 (n : Nat) (ns : List Int) (k c : Int) (h : decide (k < (ns.length : Int)) = true) (hc : atI ns k = some c) :
    T (n + 1) ._law_cell [.fz (.scr ns), .fz (.int k)] = .ret (.fz (.int c)) [.fz (.scr ns), .fz (.int k)] := by
  show fnRun 2 (b__law_cell (T n)) _ = _
  unfold b__law_cell
  wp_walk using h, hc
theorem cell_walk_2 (n : Nat) (ns : List Int) (k : Int) (h : decide (k < (ns.length : Int)) = false) (h0 : -1000 < k) (h1 : k < 1000) :
    T (n + 1) ._law_cell [.fz (.scr ns), .fz (.int k)] = .ret (.fz (.int (7919 * k * k + 17 * k))) [.fz (.scr ns), .fz (.int k)] := by
  show fnRun 2 (b__law_cell (T n)) _ = _
  unfold b__law_cell
  wp_walk using h
theorem t_cell {n : Nat} (hn : 1 ≤ n) (ns : List Int) (k : Nat) (hk : k < 1000) : ∃ c : Int, T n ._law_cell [.fz (.scr ns), .fz (.int (k : Int))] = .ret (.fz (.int c)) [.fz (.scr ns), .fz (.int (k : Int))] := by
  obtain ⟨n, rfl, _⟩ := up1 hn
  by_cases h : k < ns.length
  · obtain ⟨c, hc⟩ : ∃ c, ns[k]? = some c := ⟨ns[k], by simp [h]⟩
    exact ⟨c, cell_walk_1 n ns k c (decide_eq_true (by omega)) (atN hc)⟩
  · exact ⟨_, cell_walk_2 n ns k (decide_eq_false (by omega)) (by omega) (by omega)⟩
theorem t_dig {n : Nat} (hn : 1 ≤ n) (c : Int) : ∃ p, Pl p ∧ T n ._law_dig [.fz (.int c)] = .ret (.own (.lst p)) [.fz (.int c)] := by
  obtain ⟨n, rfl, _⟩ := up1 hn
  refine ⟨[.int (if c - 1000000000000000000 > 0 then c - 1000000000000000000 else 0), .int (c % 1000000000000000000), .int 0], ⟨_, _, _, rfl⟩, ?_⟩
  show fnRun 1 (b__law_dig (T n)) _ = _
  unfold b__law_dig
  wp_walk using maxI

end Sc.Law
end
section
set_option Elab.async false
set_option linter.all false
set_option autoImplicit false
set_option maxRecDepth 100000
set_option maxHeartbeats 2000000
open PySem L2 Sc
namespace Sc.Law
local macro_rules | `(tactic| wp_walk using $ts,*) => `(tactic| simp (config := { decide := false }) (disch := (with_reducible refine Sz.mk ?_; first | assumption | omega | ((try simp only [List.length_append, List.length_cons, List.length_nil, List.length_map, List.length_replicate, O.toD, S_len]); omega))) only [fnRun, seqM, ifS, orT, andT, notT, andM, orM, notM, ifM, testM, viewB, view, M.bind, M.pure, M.stuck, nameM, constM, bltM, viewAll, consA, nilA, retM, opM, negM, chainM, isiM, tyName, strMM, tupM, lstM, freezeAll, freeze, setM, exprM, callM, callF, prep, lend, backM, wbAll, Rt.rv, iosOf, Arg.sl, List.map_cons, List.map_nil, List.length_cons, List.length_nil, Nat.zero_add, Nat.reduceAdd, Nat.reduceSub, Nat.reduceLT, Nat.reduceEqDiff, List.replicate_succ, List.replicate_zero, List.cons_append, List.nil_append, List.getElem?_cons_zero, List.getElem?_cons_succ, List.set_cons_zero, List.set_cons_succ, methM, isObj, fldM, dget, putFM, objAt, putD, slOf, mutM, lstAt, raiseM, skipM, O.toD, leF, ltF, gtF, geF, subF, iiF, if_true, if_false, Bool.false_eq_true, len_l, len_t, len_d, len_scr, len_s,  Bool.not_true, Bool.not_false, decide_true, decide_false, kit_str_str, kit_str_tuple, kit_str_int, kit_str_bool, kit_int_str, kit_int_int, kit_int_bool, kit_int_tuple, kit_bool_int, kit_bool_bool, kit_bool_tuple, kit_bool_str, kit_tuple_tuple, kit_tuple_str, kit_tuple_int, kit_tuple_bool, kit_none_tuple, kit_none_str, kit_none_int, kit_none_bool, kit_list_tuple, kit_list_str, kit_list_int, nameG, tupGn, consG, nilG, Nat.lt_add_one, ixL, ixT, ixSc, ixAz, ixSS, appendF, Option.map_some, Option.map_none, wipeE, restE, forR, lcW, lcF, lcS, forS, forT, wipeS, extendF, yesT, int_i, int_b, putM, dicAt, putLM, rng1M, addF_ll, addF_ii, addF_tt, tupleF, sliceM, intM, dOpt, eqO_i, neO_i, eqO_S, neO_S, eqO_b, list2_l, list2_t, list2_d, inOF, Bool.false_xor, Bool.true_xor, Bool.true_and, Bool.and_true, Bool.false_and, Bool.and_false, Bool.true_or, Bool.false_or, Bool.or_true, Bool.or_false, ifLt, ifLe, at0, at1, at2, at3, ix0, ix1, ix2, ix3, ne_ss, ne_ps, kn_1, kn_2, kn_3, kn_4, kn_5, kn_6, kn_7, S_cps, mk_S, inF_sign, pow18, pow60, pow30, pow12, pow10, sl_tail, add_md, add_dmd, addSS, modZ, fdivZ, mulZR, mulZL, mulZ_l, S_len, $[$ts:term],*])
/-! the reader's methods, whatever the text -/
abbrev nt : Xc := ⟨"NoText", none⟩
theorem t_init {n : Nat} (hn : 1 ≤ n) (l : List Nat) : T n .Strip___init__ [.io (.obj "Strip" [] []), .fz (.str (S l))] = .ret (.fz .non) [.io (stR l l), .fz (.str (S l))] := by
  obtain ⟨n, rfl, hk⟩ := up1 hn
  show fnRun 2 (b_Strip___init__ (T n)) _ = _
  unfold b_Strip___init__ stR
  wp_walk using ps_self
  rfl
theorem t_is_through {n : Nat} (hn : 1 ≤ n) {l r : List Nat} (h : r <:+ l) (hs : l.length ≤ 10000000) : T n .Strip_is_through [.io (stR l r)] = .ret (.fz (.bl (decide (r = [])))) [.io (stR l r)] := by
  obtain ⟨n, rfl, hk⟩ := up1 hn
  show fnRun 1 (b_Strip_is_through (T n)) _ = _
  have e : decide ((ps l r : Int) = (l.length : Int)) = decide (r = []) := decide_eq_decide.mpr (ps_end h)
  unfold b_Strip_is_through stR
  wp_walk using e
theorem t_meets {n : Nat} (hn : 2 ≤ n) {l r : List Nat} (h : r <:+ l) (hs : l.length ≤ 10000000) (a : List Nat) : T n .Strip_meets [.io (stR l r), .fz (.str (S a))] = .ret (.fz (.bl (match r with | [] => false | c :: _ => decide (c ∈ a)))) [.io (stR l r), .fz (.str (S a))] := by
  obtain ⟨n, rfl, hk⟩ := up1 hn
  show fnRun 2 (b_Strip_meets (T n)) _ = _
  have h1 := t_is_through hk h hs
  unfold b_Strip_meets
  cases r with
  | nil =>
    unfold stR at h1 ⊢
    wp_walk using h1
  | cons c r =>
    have h2 := at_S h
    unfold stR at h1 ⊢
    simp only [reduceCtorEq, decide_false] at h1
    wp_walk using h1, h2
theorem t_passes {n : Nat} (hn : 1 ≤ n) {l r : List Nat} (h : r <:+ l) (hs : l.length ≤ 10000000) (w : List Nat) (hw : w.length ≤ 10000000) : T n .Strip_passes [.io (stR l r), .fz (.str (S w))] = .ret (.fz (.bl (w.isPrefixOf r))) [.io (stR l (if w.isPrefixOf r then r.drop w.length else r)), .fz (.str (S w))] := by
  obtain ⟨n, rfl, hk⟩ := up1 hn
  show fnRun 2 (b_Strip_passes (T n)) _ = _
  have h1 : startsF (S l) [.str (S w), .int (ps l r : Int)] = some (.fz (.bl (w.isPrefixOf r))) := by
    show some (Rv.fz (.bl (Txt.startswith3 (S l) (S w) (ps l r : Int)))) = _
    rw [S_starts l w _ (at_of h).le, (at_of h).eq]
  unfold b_Strip_passes stR
  cases hp : w.isPrefixOf r with
  | false =>
    rw [hp] at h1
    wp_walk using h1
  | true =>
    rw [hp] at h1
    have e := ps_drop h hp
    wp_walk using h1, e
theorem t_must_pass {n : Nat} (hn : 2 ≤ n) {l r : List Nat} (h : r <:+ l) (hs : l.length ≤ 10000000) (w : List Nat) (hw : w.length ≤ 10000000) :
    T n .Strip_must_pass [.io (stR l r), .fz (.str (S w))] = if w.isPrefixOf r then .ret (.fz .non) [.io (stR l (r.drop w.length)), .fz (.str (S w))] else .exc nt [.io (stR l r), .fz (.str (S w))] := by
  obtain ⟨n, rfl, hk⟩ := up1 hn
  show fnRun 2 (b_Strip_must_pass (T n)) _ = _
  have h1 := t_passes hk h hs w hw
  unfold b_Strip_must_pass
  cases hp : w.isPrefixOf r with
  | false =>
    rw [hp] at h1
    simp only [Bool.false_eq_true, if_false] at h1
    unfold stR at h1 ⊢
    wp_walk using h1
  | true =>
    rw [hp] at h1
    simp only [if_true] at h1
    unfold stR at h1 ⊢
    wp_walk using h1
theorem t_ends_well {n : Nat} (hn : 2 ≤ n) {l r : List Nat} (h : r <:+ l) (hs : l.length ≤ 10000000) : T n .Strip_ends_well [.io (stR l r)] = if r = [] then .ret (.fz .non) [.io (stR l r)] else .exc nt [.io (stR l r)] := by
  obtain ⟨n, rfl, hk⟩ := up1 hn
  show fnRun 1 (b_Strip_ends_well (T n)) _ = _
  have h1 := t_is_through hk h hs
  unfold b_Strip_ends_well
  unfold stR at h1 ⊢
  by_cases hr : r = []
  · rw [decide_eq_true hr] at h1
    rw [if_pos hr]
    wp_walk using h1
  · rw [decide_eq_false hr] at h1
    rw [if_neg hr]
    wp_walk using h1
theorem w_stretch {n : Nat} (hn : 2 ≤ n) {l : List Nat} (hs : l.length ≤ 10000000) (a : List Nat) (s : Sl) : ∀ (r : List Nat), r <:+ l → 
    w_Strip_stretch_of_1 (T n) [.io (stR l r), .fz (.str (S a)), s] = .ok .nx [.io (stR l (dr a r)), .fz (.str (S a)), s]
  | [], h => by
    unfold w_Strip_stretch_of_1
    refine whileM_done ?_
    have h1 := t_meets hn h hs a
    unfold dr stR at *
    wp_walk using h1
    rfl
  | c :: r, h => by
    have h1 := t_meets hn h hs a
    by_cases hc : c ∈ a
    · have ih := w_stretch hn hs a s r (suf_cons h)
      have e : dr a (c :: r) = dr a r := by simp [dr, hc]
      rw [e]
      have hl := h.length_le
      unfold w_Strip_stretch_of_1 at ih ⊢
      refine (whileM_step (e1 := [.io (stR l (c :: r)), .fz (.str (S a)), s]) (e2 := [.io (stR l r), .fz (.str (S a)), s]) ?_ ?_ (by rw [ih]; rfl)).trans ih
      · simp only [decide_eq_true hc] at h1
        unfold stR at *
        wp_walk using h1
      · have e2 := ps_cons h
        unfold stR
        wp_walk using e2
    · have e : dr a (c :: r) = c :: r := by simp [dr, hc]
      rw [e]
      unfold w_Strip_stretch_of_1
      refine whileM_done ?_
      simp only [decide_eq_false hc] at h1
      unfold stR at *
      wp_walk using h1
theorem sl_R {l r : List Nat} (h : r <:+ l) (hs : l.length ≤ 10000000) (a : List Nat) : slF (.str (S l)) (some (ps l r : Int)) (some (ps l (dr a r) : Int)) = some (.fz (.str (S (tk a r)))) := by
  have hz : (S l).length ≤ sizeLine := by rw [S_len]; unfold sizeLine; omega
  show (if (S l).length ≤ sizeLine then some (Rv.fz (.str (cutS (S l) (some (ps l r : Int)) (some (ps l (dr a r) : Int))))) else none) = _
  rw [if_pos hz]
  unfold cutS
  have e := congrArg List.length (tk_dr a r)
  rw [List.length_append] at e
  have h1 := h.length_le
  rw [HT.sIx_nat, HT.sIx_nat, S_cps, S_len, Nat.min_eq_left (by unfold ps; omega), Nat.min_eq_left (by unfold ps; omega), (at_of h).eq]
  have e2 : ps l (dr a r) - ps l r = (tk a r).length := by unfold ps; omega
  rw [e2]
  congr 3
  have : r.take (tk a r).length = tk a r := by
    conv => lhs; arg 2; rw [← tk_dr a r]
    exact List.take_left
  rw [this]; rfl
theorem t_stretch {n : Nat} (hn : 3 ≤ n) {l r : List Nat} (h : r <:+ l) (hs : l.length ≤ 10000000) (a : List Nat) :
    T n .Strip_stretch_of [.io (stR l r), .fz (.str (S a))] = if tk a r = [] then .exc nt [.io (stR l r), .fz (.str (S a))] else .ret (.fz (.str (S (tk a r)))) [.io (stR l (dr a r)), .fz (.str (S a))] := by
  obtain ⟨n, rfl, hk⟩ := up1 hn
  show fnRun 3 (b_Strip_stretch_of (T n)) _ = _
  have h1 := w_stretch hk hs a (.fz (.int (ps l r : Int))) r h
  have h2 := sl_R h hs a
  have hl := h.length_le
  have e := congrArg List.length (tk_dr a r)
  rw [List.length_append] at e
  unfold b_Strip_stretch_of
  by_cases ht : tk a r = []
  · rw [if_pos ht]
    rw [ht] at e h2
    have ed : dr a r = r := by have := tk_dr a r; rw [ht] at this; simpa using this
    rw [ed] at h1
    unfold stR at *
    wp_walk using h1, decide_true
  · rw [if_neg ht]
    have := List.length_pos_iff.mpr ht
    have e3 : decide ((ps l (dr a r) : Int) = (ps l r : Int)) = false := decide_eq_false fun z => by have := (ps_eq (suf_dr h a) h).mp z; omega
    unfold stR at *
    wp_walk using h1, h2, e3

end Sc.Law
end
section
set_option Elab.async false
set_option linter.all false
set_option autoImplicit false
set_option maxRecDepth 100000
set_option maxHeartbeats 2000000
open PySem L2 Sc
namespace Sc.Law
local macro_rules | `(tactic| wp_walk using $ts,*) => `(tactic| simp (config := { decide := false }) (disch := (with_reducible refine Sz.mk ?_; first | assumption | omega | ((try simp only [List.length_append, List.length_cons, List.length_nil, List.length_map, List.length_replicate, O.toD, S_len]); omega))) only [fnRun, seqM, ifS, orT, andT, notT, andM, orM, notM, ifM, testM, viewB, view, M.bind, M.pure, M.stuck, nameM, constM, bltM, viewAll, consA, nilA, retM, opM, negM, chainM, isiM, tyName, strMM, tupM, lstM, freezeAll, freeze, setM, exprM, callM, callF, prep, lend, backM, wbAll, Rt.rv, iosOf, Arg.sl, List.map_cons, List.map_nil, List.length_cons, List.length_nil, Nat.zero_add, Nat.reduceAdd, Nat.reduceSub, Nat.reduceLT, Nat.reduceEqDiff, List.replicate_succ, List.replicate_zero, List.cons_append, List.nil_append, List.getElem?_cons_zero, List.getElem?_cons_succ, List.set_cons_zero, List.set_cons_succ, methM, isObj, fldM, dget, putFM, objAt, putD, slOf, mutM, lstAt, raiseM, skipM, O.toD, leF, ltF, gtF, geF, subF, iiF, if_true, if_false, Bool.false_eq_true, len_l, len_t, len_d, len_scr, len_s,  Bool.not_true, Bool.not_false, decide_true, decide_false, kit_str_str, kit_str_tuple, kit_str_int, kit_str_bool, kit_int_str, kit_int_int, kit_int_bool, kit_int_tuple, kit_bool_int, kit_bool_bool, kit_bool_tuple, kit_bool_str, kit_tuple_tuple, kit_tuple_str, kit_tuple_int, kit_tuple_bool, kit_none_tuple, kit_none_str, kit_none_int, kit_none_bool, kit_list_tuple, kit_list_str, kit_list_int, nameG, tupGn, consG, nilG, Nat.lt_add_one, ixL, ixT, ixSc, ixAz, ixSS, appendF, Option.map_some, Option.map_none, wipeE, restE, forR, lcW, lcF, lcS, forS, forT, wipeS, extendF, yesT, int_i, int_b, putM, dicAt, putLM, rng1M, addF_ll, addF_ii, addF_tt, tupleF, sliceM, intM, dOpt, eqO_i, neO_i, eqO_S, neO_S, eqO_b, list2_l, list2_t, list2_d, inOF, Bool.false_xor, Bool.true_xor, Bool.true_and, Bool.and_true, Bool.false_and, Bool.and_false, Bool.true_or, Bool.false_or, Bool.or_true, Bool.or_false, ifLt, ifLe, at0, at1, at2, at3, ix0, ix1, ix2, ix3, ne_ss, ne_ps, kn_1, kn_2, kn_3, kn_4, kn_5, kn_6, kn_7, S_cps, mk_S, inF_sign, pow18, pow60, pow30, pow12, pow10, sl_tail, add_md, add_dmd, addSS, modZ, fdivZ, mulZR, mulZL, mulZ_l, S_len, $[$ts:term],*])
/-! values read -/
inductive Val where
  | num (i : Int) | mk (m : List Nat) (ps : List Val)
mutual
def dVal : Val → D
  | .num i => .int i
  | .mk m ps => .tup (.str (S m) :: dVals ps)
def dVals : List Val → List D
  | [] => []
  | v :: vs => dVal v :: dVals vs
end
theorem dVals_map (vs : List Val) : dVals vs = vs.map dVal := by
  induction vs with
  | nil => rfl
  | cons v vs ih => simp [dVals, ih]
theorem dVals_app (a b : List Val) : dVals (a ++ b) = dVals a ++ dVals b := by simp [dVals_map]
theorem t_number {n : Nat} (hn : 4 ≤ n) {l r : List Nat} (h : r <:+ l) (hs : l.length ≤ 10000000) :
    match pNum r with
    | some (i, r') => r' <:+ l ∧ T n .Strip_number_next [.io (stR l r)] = .ret (.fz (.int i)) [.io (stR l r')]
    | none => ∃ r', r' <:+ l ∧ T n .Strip_number_next [.io (stR l r)] = .exc nt [.io (stR l r')] := by
  obtain ⟨n, rfl, hk⟩ := up1 hn
  have h1 := t_passes (n := n) (by omega) h hs [45] (by decide)
  have hq : (if [45].isPrefixOf r then r.drop 1 else r) <:+ l := by split; exact suf_drop h 1; exact h
  have h2 := t_stretch (n := n) (by omega) hq hs digL
  have e : T (n + 1) .Strip_number_next [.io (stR l r)] = fnRun 3 (b_Strip_number_next (T n)) [.io (stR l r)] := rfl
  rw [e]
  unfold b_Strip_number_next
  simp only [List.length_cons, List.length_nil, Nat.zero_add] at h1
  unfold pNum
  generalize [45].isPrefixOf r = b at *
  generalize (if b = true then r.drop 1 else r) = q at *
  unfold pNumQ
  by_cases h0 : tk digL q = []
  · rw [if_pos h0] at h2 ⊢
    refine ⟨q, hq, ?_⟩
    unfold stR at *
    wp_walk using h1, h2
  · rw [if_neg h0] at h2 ⊢
    have hdl := (suf_dr hq digL)
    have hle : (tk digL q).length ≤ 10000000 := by
      have := congrArg List.length (tk_dr digL q)
      have := hq.length_le
      simp only [List.length_append] at *; omega
    by_cases h7 : 70 < (tk digL q).length
    · rw [if_pos h7]
      have h8 : decide ((70 : Int) < ((tk digL q).length : Int)) = true := decide_eq_true (by omega)
      refine ⟨dr digL q, hdl, ?_⟩
      unfold stR at *
      wp_walk using h1, h2, h8
    · rw [if_neg h7]
      have h8 : decide ((70 : Int) < ((tk digL q).length : Int)) = false := decide_eq_false (by omega)
      have h9 := int_dig (a := tk digL q) (fun c hc => tk_mem c hc) h0 (by omega)
      refine ⟨hdl, ?_⟩
      unfold stR at *
      cases b with
      | true => simp only [if_true]; wp_walk using h1, h2, h8, h9
      | false => simp only [Bool.false_eq_true, if_false]; wp_walk using h1, h2, h8, h9
/-- many, each behind a word -/
def pMany {α : Type} (p : List Nat → Option (α × List Nat)) (w : List Nat) : Nat → List Nat → Option (List α × List Nat)
  | 0, r => some ([], r)
  | k + 1, r => if w.isPrefixOf r then match p (r.drop w.length) with
      | some (a, r') => match pMany p w k r' with
        | some (as, r'') => some (a :: as, r'')
        | none => none
      | none => none
    else some ([], r)
/-- what stands next is a number -/
def mNum (r : List Nat) : Bool := match r with
  | [] => false
  | c :: _ => decide (c ∈ 45 :: digL)
def pParts {α : Type} (p : List Nat → Option (α × List Nat)) (r : List Nat) : Option (List α × List Nat) :=
  if [40].isPrefixOf r then match p (r.drop 1) with
    | some (v, r1) => match pMany p [32] r1.length r1 with
      | some (vs, r2) => if [41].isPrefixOf r2 then some (v :: vs, r2.drop 1) else none
      | none => none
    | none => none
  else some ([], r)
def pVal : Nat → List Nat → Option (Val × List Nat)
  | 0, r => if mNum r then (pNum r).map fun x => (.num x.1, x.2) else none
  | room + 1, r => if mNum r then (pNum r).map fun x => (.num x.1, x.2) else
    if tk azL r = [] then none else match pParts (pVal room) (dr azL r) with
      | some (vs, r') => some (.mk (tk azL r) vs, r')
      | none => none
/-- what a reader of values is -/
def RdV (l : List Nat) (n room : Nat) : Prop := ∀ r, r <:+ l → match pVal room r with
    | some (v, r') => r' <:+ l ∧ r'.length < r.length ∧ T n .value_read [.io (stR l r), .fz (.int (room : Int))] = .ret (.fz (dVal v)) [.io (stR l r'), .fz (.int (room : Int))]
    | none => ∃ r', r' <:+ l ∧ T n .value_read [.io (stR l r), .fz (.int (room : Int))] = .exc nt [.io (stR l r'), .fz (.int (room : Int))]
theorem w_vals {n room : Nat} (hn : 4 ≤ n) {l : List Nat} (hs : l.length ≤ 10000000) (ih : RdV l n room) (nm : Sl) : ∀ (k : Nat) (r : List Nat) (acc : List D), r <:+ l → r.length ≤ k → acc.length + r.length ≤ 10000000 →
    match pMany (pVal room) [32] k r with
    | some (vs, r') => r' <:+ l ∧ vs.length + r'.length ≤ r.length ∧ w_value_read_1 (T n) [.io (stR l r), .fz (.int ((room : Int) + 1)), nm, .own (.lst acc)] = .ok .nx [.io (stR l r'), .fz (.int ((room : Int) + 1)), nm, .own (.lst (acc ++ dVals vs))]
    | none => ∃ r' ds, r' <:+ l ∧ w_value_read_1 (T n) [.io (stR l r), .fz (.int ((room : Int) + 1)), nm, .own (.lst acc)] = .exc nt [.io (stR l r'), .fz (.int ((room : Int) + 1)), nm, .own (.lst ds)] := by
  intro k
  induction k with
  | zero =>
    intro r acc h hk ha
    have e : r = [] := List.length_eq_zero_iff.mp (by omega)
    subst e
    have h1 := t_passes (n := n) (by omega) h hs [32] (by decide)
    have z : [32].isPrefixOf ([] : List Nat) = false := rfl
    rw [z] at h1
    simp only [Bool.false_eq_true, if_false] at h1
    simp only [pMany, dVals, List.append_nil]
    refine ⟨h, by simp, ?_⟩
    unfold w_value_read_1
    refine whileM_done ?_
    unfold stR at *
    wp_walk using h1
  | succ k IH =>
    intro r acc h hk ha
    have h1 := t_passes (n := n) (by omega) h hs [32] (by decide)
    unfold pMany
    cases hp : [32].isPrefixOf r with
    | false =>
      rw [hp] at h1
      simp only [Bool.false_eq_true, if_false] at h1 ⊢
      simp only [dVals, List.append_nil]
      refine ⟨h, by simp, ?_⟩
      unfold w_value_read_1
      refine whileM_done ?_
      unfold stR at *
      wp_walk using h1
    | true =>
      rw [hp] at h1
      simp only [if_true, List.length_cons, List.length_nil, Nat.zero_add] at h1 ⊢
      have hpl := (List.isPrefixOf_iff_prefix.mp hp).length_le
      have h2 := ih (r.drop 1) (suf_drop h 1)
      have e0 : ((room : Int) + 1) - 1 = (room : Int) := by omega
      have t1 : testM (methM "Strip" "passes" [false] (T n .Strip_passes) (nameM 0) (consA (constM (.str (S [32]))) nilA)) [.io (stR l r), .fz (.int ((room : Int) + 1)), nm, .own (.lst acc)] = .ok true [.io (stR l (r.drop 1)), .fz (.int ((room : Int) + 1)), nm, .own (.lst acc)] := by
        unfold stR at *
        wp_walk using h1
      cases hv : pVal room (r.drop 1) with
      | none =>
        rw [hv] at h2
        obtain ⟨r', s', g⟩ := h2
        refine ⟨r', acc, s', ?_⟩
        unfold w_value_read_1
        refine whileM_exc t1 ?_
        unfold stR at *
        wp_walk using g, e0
      | some p =>
        obtain ⟨v, r1⟩ := p
        rw [hv] at h2
        obtain ⟨s1, l1, g⟩ := h2
        rw [List.length_drop] at l1
        have b1 : exprM (mutM appendF 3 (consA (callM [true, false] (T n .value_read) (consA (nameM 0) (consA (opM subF (nameM 1) (constM (.int 1))) nilA))) nilA)) [.io (stR l (r.drop 1)), .fz (.int ((room : Int) + 1)), nm, .own (.lst acc)] = .ok .nx [.io (stR l r1), .fz (.int ((room : Int) + 1)), nm, .own (.lst (acc ++ [dVal v]))] := by
          unfold stR at *
          wp_walk using g, e0
        have i := IH r1 (acc ++ [dVal v]) s1 (by omega) (by simp; omega)
        dsimp only
        cases hm : pMany (pVal room) [32] k r1 with
        | none =>
          rw [hm] at i
          obtain ⟨r', ds, s', g'⟩ := i
          refine ⟨r', ds, s', ?_⟩
          unfold w_value_read_1 at g' ⊢
          exact (whileM_step t1 b1 (by rw [g']; rfl)).trans g'
        | some p =>
          obtain ⟨vs, r'⟩ := p
          rw [hm] at i
          obtain ⟨s', l', g'⟩ := i
          refine ⟨s', by simp only [List.length_cons]; omega, ?_⟩
          have e2 : acc ++ [dVal v] ++ dVals vs = acc ++ dVals (v :: vs) := by simp [dVals]
          rw [e2] at g'
          unfold w_value_read_1 at g' ⊢
          exact (whileM_step t1 b1 (by rw [g']; rfl)).trans g'
theorem pNum_lt {r r' : List Nat} {i : Int} (h : pNum r = some (i, r')) : r'.length < r.length := by
  unfold pNum at h
  have hq : (if [45].isPrefixOf r = true then r.drop 1 else r).length ≤ r.length := by split <;> simp
  generalize (if [45].isPrefixOf r = true then r.drop 1 else r) = q at *
  unfold pNumQ at h
  split at h
  · cases h
  · rename_i h0
    split at h
    · cases h
    · have e := congrArg List.length (tk_dr digL q)
      have h1 := List.length_pos_iff.mpr h0
      simp only [Option.some.injEq, Prod.mk.injEq] at h
      obtain ⟨_, rfl⟩ := h
      rw [List.length_append] at e
      omega
theorem t_value_read {l : List Nat} (hs : l.length ≤ 10000000) : ∀ (room n : Nat), room + 5 ≤ n → RdV l n room := by
  intro room
  induction room with
  | zero =>
    intro n hn r h
    obtain ⟨n, rfl, hk⟩ := up1 hn
    have e : T (n + 1) .value_read [.io (stR l r), .fz (.int ((0 : Nat) : Int))] = fnRun 4 (b_value_read (T n)) [.io (stR l r), .fz (.int ((0 : Nat) : Int))] := rfl
    rw [e]
    unfold b_value_read
    have h1 : T n .Strip_meets [.io (stR l r), .fz (.str (S (45 :: digL)))] = .ret (.fz (.bl (mNum r))) [.io (stR l r), .fz (.str (S (45 :: digL)))] := by
      have := t_meets (n := n) (by omega) h hs (45 :: digL)
      rw [this]; unfold mNum; cases r <;> rfl
    have h2 := t_number (n := n) (by omega) h hs
    have h3 := t_stretch (n := n) (by omega) h hs azL
    unfold pVal
    cases hm : mNum r with
    | true =>
      rw [hm] at h1
      simp only [if_true]
      cases hp : pNum r with
      | none =>
        rw [hp] at h2
        obtain ⟨r', s', g⟩ := h2
        refine ⟨r', s', ?_⟩
        unfold stR at *
        wp_walk using h1, g
      | some p =>
        obtain ⟨i, r'⟩ := p
        rw [hp] at h2
        obtain ⟨s', g⟩ := h2
        refine ⟨s', pNum_lt hp, ?_⟩
        unfold stR at *
        wp_walk using h1, g
        rfl
    | false =>
      rw [hm] at h1
      simp only [Bool.false_eq_true, if_false]
      by_cases h0 : tk azL r = []
      · rw [if_pos h0] at h3
        refine ⟨r, h, ?_⟩
        unfold stR at *
        wp_walk using h1, h3
      · rw [if_neg h0] at h3
        refine ⟨dr azL r, suf_dr h _, ?_⟩
        unfold stR at *
        have e1 : decide (((0 : Nat) : Int) = 0) = true := rfl
        wp_walk using h1, h3, e1
  | succ room ih =>
    intro n hn r h
    obtain ⟨n, rfl, hk⟩ := up1 hn
    have e : T (n + 1) .value_read [.io (stR l r), .fz (.int ((room + 1 : Nat) : Int))] = fnRun 4 (b_value_read (T n)) [.io (stR l r), .fz (.int ((room + 1 : Nat) : Int))] := rfl
    rw [e]
    have ez : ((room + 1 : Nat) : Int) = (room : Int) + 1 := by omega
    rw [ez]
    have e0 : ((room : Int) + 1) - 1 = (room : Int) := by omega
    have e1 : decide (((room : Int) + 1) = 0) = false := decide_eq_false (by omega)
    unfold b_value_read
    have h1 : T n .Strip_meets [.io (stR l r), .fz (.str (S (45 :: digL)))] = .ret (.fz (.bl (mNum r))) [.io (stR l r), .fz (.str (S (45 :: digL)))] := by
      have := t_meets (n := n) (by omega) h hs (45 :: digL)
      rw [this]; unfold mNum; cases r <;> rfl
    have h2 := t_number (n := n) (by omega) h hs
    have h3 := t_stretch (n := n) (by omega) h hs azL
    unfold pVal
    cases hm : mNum r with
    | true =>
      rw [hm] at h1
      simp only [if_true]
      cases hp : pNum r with
      | none =>
        rw [hp] at h2
        obtain ⟨r', s', g⟩ := h2
        refine ⟨r', s', ?_⟩
        unfold stR at *
        wp_walk using h1, g
      | some p =>
        obtain ⟨i, r'⟩ := p
        rw [hp] at h2
        obtain ⟨s', g⟩ := h2
        refine ⟨s', pNum_lt hp, ?_⟩
        unfold stR at *
        wp_walk using h1, g
        rfl
    | false =>
      rw [hm] at h1
      simp only [Bool.false_eq_true, if_false]
      by_cases h0 : tk azL r = []
      · rw [if_pos h0] at h3 ⊢
        refine ⟨r, h, ?_⟩
        unfold stR at *
        wp_walk using h1, h3
      · rw [if_neg h0] at h3 ⊢
        have sq := suf_dr h azL
        have lq : (dr azL r).length < r.length := by
          have := congrArg List.length (tk_dr azL r)
          have := List.length_pos_iff.mpr h0
          simp only [List.length_append] at *; omega
        have lr := h.length_le
        generalize dr azL r = q at *
        generalize tk azL r = nm at *
        have h4 := t_passes (n := n) (by omega) sq hs [40] (by decide)
        simp only [List.length_cons, List.length_nil, Nat.zero_add] at h4
        unfold pParts
        cases hp : [40].isPrefixOf q with
        | false =>
          rw [hp] at h4
          simp only [Bool.false_eq_true, if_false] at h4 ⊢
          refine ⟨sq, lq, ?_⟩
          unfold dVal dVals stR at *
          wp_walk using h1, h3, h4, e1
        | true =>
          rw [hp] at h4
          simp only [if_true] at h4 ⊢
          have s1 := suf_drop sq 1
          have h5 := ih n (by omega) (q.drop 1) s1
          cases hv : pVal room (q.drop 1) with
          | none =>
            rw [hv] at h5
            obtain ⟨r', s', g⟩ := h5
            refine ⟨r', s', ?_⟩
            unfold stR at *
            wp_walk using h1, h3, h4, g, e0, e1
          | some p =>
            obtain ⟨v, r1⟩ := p
            rw [hv] at h5
            obtain ⟨s2, l2, g⟩ := h5
            rw [List.length_drop] at l2
            have lp := (List.isPrefixOf_iff_prefix.mp hp).length_le
            have h6 := w_vals (n := n) (by omega) hs (ih n (by omega)) (.fz (.str (S nm))) r1.length r1 [dVal v] s2 (Nat.le_refl _) (by simp; omega)
            dsimp only
            cases hmm : pMany (pVal room) [32] r1.length r1 with
            | none =>
              rw [hmm] at h6
              obtain ⟨r', ds, s', g'⟩ := h6
              refine ⟨r', s', ?_⟩
              unfold stR at *
              wp_walk using h1, h3, h4, g, e0, e1, g'
            | some p =>
              obtain ⟨vs, r2⟩ := p
              rw [hmm] at h6
              obtain ⟨s3, l3, g'⟩ := h6
              have h7 := t_must_pass (n := n) (by omega) s3 hs [41] (by decide)
              simp only [List.length_cons, List.length_nil, Nat.zero_add] at h7
              dsimp only
              cases hp2 : [41].isPrefixOf r2 with
              | false =>
                rw [hp2] at h7
                simp only [Bool.false_eq_true, if_false] at h7 ⊢
                refine ⟨r2, s3, ?_⟩
                unfold stR at *
                wp_walk using h1, h3, h4, g, e0, e1, g', h7
              | true =>
                rw [hp2] at h7
                simp only [if_true] at h7 ⊢
                have lz : (dVals vs).length ≤ 10000000 := by rw [dVals_map, List.length_map]; omega
                refine ⟨suf_drop s3 1, by rw [List.length_drop]; omega, ?_⟩
                unfold dVal
                simp only [dVals]
                unfold stR at *
                wp_walk using h1, h3, h4, g, e0, e1, g', h7

end Sc.Law
end
section
set_option Elab.async false
set_option linter.all false
set_option autoImplicit false
set_option maxRecDepth 100000
set_option maxHeartbeats 2000000
open PySem L2 Sc
namespace Sc.Law
local macro_rules | `(tactic| wp_walk using $ts,*) => `(tactic| simp (config := { decide := false }) (disch := (with_reducible refine Sz.mk ?_; first | assumption | omega | ((try simp only [List.length_append, List.length_cons, List.length_nil, List.length_map, List.length_replicate, O.toD, S_len]); omega))) only [fnRun, seqM, ifS, orT, andT, notT, andM, orM, notM, ifM, testM, viewB, view, M.bind, M.pure, M.stuck, nameM, constM, bltM, viewAll, consA, nilA, retM, opM, negM, chainM, isiM, tyName, strMM, tupM, lstM, freezeAll, freeze, setM, exprM, callM, callF, prep, lend, backM, wbAll, Rt.rv, iosOf, Arg.sl, List.map_cons, List.map_nil, List.length_cons, List.length_nil, Nat.zero_add, Nat.reduceAdd, Nat.reduceSub, Nat.reduceLT, Nat.reduceEqDiff, List.replicate_succ, List.replicate_zero, List.cons_append, List.nil_append, List.getElem?_cons_zero, List.getElem?_cons_succ, List.set_cons_zero, List.set_cons_succ, methM, isObj, fldM, dget, putFM, objAt, putD, slOf, mutM, lstAt, raiseM, skipM, O.toD, leF, ltF, gtF, geF, subF, iiF, if_true, if_false, Bool.false_eq_true, len_l, len_t, len_d, len_scr, len_s,  Bool.not_true, Bool.not_false, decide_true, decide_false, kit_str_str, kit_str_tuple, kit_str_int, kit_str_bool, kit_int_str, kit_int_int, kit_int_bool, kit_int_tuple, kit_bool_int, kit_bool_bool, kit_bool_tuple, kit_bool_str, kit_tuple_tuple, kit_tuple_str, kit_tuple_int, kit_tuple_bool, kit_none_tuple, kit_none_str, kit_none_int, kit_none_bool, kit_list_tuple, kit_list_str, kit_list_int, nameG, tupGn, consG, nilG, Nat.lt_add_one, ixL, ixT, ixSc, ixAz, ixSS, appendF, Option.map_some, Option.map_none, wipeE, restE, forR, lcW, lcF, lcS, forS, forT, wipeS, extendF, yesT, int_i, int_b, putM, dicAt, putLM, rng1M, addF_ll, addF_ii, addF_tt, tupleF, sliceM, intM, dOpt, eqO_i, neO_i, eqO_S, neO_S, eqO_b, list2_l, list2_t, list2_d, inOF, Bool.false_xor, Bool.true_xor, Bool.true_and, Bool.and_true, Bool.false_and, Bool.and_false, Bool.true_or, Bool.false_or, Bool.or_true, Bool.or_false, ifLt, ifLe, at0, at1, at2, at3, ix0, ix1, ix2, ix3, ne_ss, ne_ps, kn_1, kn_2, kn_3, kn_4, kn_5, kn_6, kn_7, S_cps, mk_S, inF_sign, pow18, pow60, pow30, pow12, pow10, sl_tail, add_md, add_dmd, addSS, modZ, fdivZ, mulZR, mulZL, mulZ_l, S_len, $[$ts:term],*])
/-! a name and parts in brackets -/
def dStr (l : List Nat) : D := .str (S l)
def brT (ws : List (List Nat)) : List Nat := if ws = [] then [] else 40 :: joinT [32] ws ++ [41]
theorem joinL_SS {sep : List Nat} {ls : List (List Nat)} (h : (joinT sep ls).length ≤ 10000000) (hs : sep.length ≤ 1000) : joinL (S sep) (ls.map dStr) = some (.fz (.str (S (joinT sep ls)))) := by
  show joinL (S sep) (ls.map fun l => .str (S l)) = _
  unfold joinL
  rw [strsOf_S']
  have e : ((ls.map S).map (·.length)).sum = (ls.map List.length).sum := by rw [List.map_map]; exact congrArg List.sum (List.map_congr_left fun x _ => S_len x)
  have := joinT_len sep ls
  show (if ((ls.map S).map (·.length)).sum + (ls.map S).length * (S sep).length ≤ 16777216 then some (Rv.fz (.str (Txt.join (S sep) (ls.map S)))) else none) = _
  rw [if_pos (by rw [e, S_len, List.length_map]; omega), S_join]
theorem join_l {sep : List Nat} {ls : List (List Nat)} (h : (joinT sep ls).length ≤ 10000000) (hs : sep.length ≤ 1000) : joinF (S sep) [.lst (ls.map dStr)] = some (.fz (.str (S (joinT sep ls)))) := joinL_SS h hs
theorem join_t {sep : List Nat} {ls : List (List Nat)} (h : (joinT sep ls).length ≤ 10000000) (hs : sep.length ≤ 1000) : joinF (S sep) [.tup (ls.map dStr)] = some (.fz (.str (S (joinT sep ls)))) := joinL_SS h hs
theorem brT_cons (nm w : List Nat) (ws : List (List Nat)) : nm ++ brT (w :: ws) = nm ++ [40] ++ joinT [32] (w :: ws) ++ [41] := by simp [brT]
theorem brT_len (ws : List (List Nat)) : (joinT [32] ws).length ≤ (brT ws).length := by
  unfold brT; split
  · rename_i h; subst h; simp [joinT]
  · simp only [List.length_append, List.length_cons]; omega
theorem t_brack_l {n : Nat} (hn : 1 ≤ n) (nm : List Nat) (ws : List (List Nat)) (h : (nm ++ brT ws).length ≤ 10000000) :
    T n .in_brackets [.fz (.str (S nm)), .fz (.lst (ws.map dStr))] = .ret (.fz (.str (S (nm ++ brT ws)))) [.fz (.str (S nm)), .fz (.lst (ws.map dStr))] := by
  obtain ⟨n, rfl, hk⟩ := up1 hn
  show fnRun 2 (b_in_brackets (T n)) _ = _
  unfold b_in_brackets
  cases ws with
  | nil => wp_walk using decide_true, show brT [] = [] from rfl, List.append_nil, show decide (((0 : Nat) : Int) = 0) = true from rfl
  | cons w ws =>
    have hb := brT_len (w :: ws)
    simp only [List.length_append] at h
    have j := join_l (sep := [32]) (ls := w :: ws) (by omega) (by decide)
    rw [brT_cons]
    have z : decide ((((w :: ws).map dStr).length : Int) = 0) = false := decide_eq_false (by simp; omega)
    have hl : nm.length + 1 + (joinT [32] (w :: ws)).length + 1 ≤ 16000000 := by omega
    generalize (w :: ws).map dStr = ds at *
    generalize joinT [32] (w :: ws) = jt at *
    wp_walk using z, j
theorem t_brack_t {n : Nat} (hn : 1 ≤ n) (nm : List Nat) (ws : List (List Nat)) (h : (nm ++ brT ws).length ≤ 10000000) :
    T n .in_brackets [.fz (.str (S nm)), .fz (.tup (ws.map dStr))] = .ret (.fz (.str (S (nm ++ brT ws)))) [.fz (.str (S nm)), .fz (.tup (ws.map dStr))] := by
  obtain ⟨n, rfl, hk⟩ := up1 hn
  show fnRun 2 (b_in_brackets (T n)) _ = _
  unfold b_in_brackets
  cases ws with
  | nil => wp_walk using decide_true, show brT [] = [] from rfl, List.append_nil, show decide (((0 : Nat) : Int) = 0) = true from rfl
  | cons w ws =>
    have hb := brT_len (w :: ws)
    simp only [List.length_append] at h
    have j := join_t (sep := [32]) (ls := w :: ws) (by omega) (by decide)
    rw [brT_cons]
    have z : decide ((((w :: ws).map dStr).length : Int) = 0) = false := decide_eq_false (by simp; omega)
    have hl : nm.length + 1 + (joinT [32] (w :: ws)).length + 1 ≤ 16000000 := by omega
    generalize (w :: ws).map dStr = ds at *
    generalize joinT [32] (w :: ws) = jt at *
    wp_walk using z, j

end Sc.Law
end
section
set_option Elab.async false
set_option linter.all false
set_option autoImplicit false
set_option maxRecDepth 100000
set_option maxHeartbeats 2000000
open PySem L2 Sc
namespace Sc.Law
local macro_rules | `(tactic| wp_walk using $ts,*) => `(tactic| simp (config := { decide := false }) (disch := (with_reducible refine Sz.mk ?_; first | assumption | omega | ((try simp only [List.length_append, List.length_cons, List.length_nil, List.length_map, List.length_replicate, O.toD, S_len]); omega))) only [fnRun, seqM, ifS, orT, andT, notT, andM, orM, notM, ifM, testM, viewB, view, M.bind, M.pure, M.stuck, nameM, constM, bltM, viewAll, consA, nilA, retM, opM, negM, chainM, isiM, tyName, strMM, tupM, lstM, freezeAll, freeze, setM, exprM, callM, callF, prep, lend, backM, wbAll, Rt.rv, iosOf, Arg.sl, List.map_cons, List.map_nil, List.length_cons, List.length_nil, Nat.zero_add, Nat.reduceAdd, Nat.reduceSub, Nat.reduceLT, Nat.reduceEqDiff, List.replicate_succ, List.replicate_zero, List.cons_append, List.nil_append, List.getElem?_cons_zero, List.getElem?_cons_succ, List.set_cons_zero, List.set_cons_succ, methM, isObj, fldM, dget, putFM, objAt, putD, slOf, mutM, lstAt, raiseM, skipM, O.toD, leF, ltF, gtF, geF, subF, iiF, if_true, if_false, Bool.false_eq_true, len_l, len_t, len_d, len_scr, len_s,  Bool.not_true, Bool.not_false, decide_true, decide_false, kit_str_str, kit_str_tuple, kit_str_int, kit_str_bool, kit_int_str, kit_int_int, kit_int_bool, kit_int_tuple, kit_bool_int, kit_bool_bool, kit_bool_tuple, kit_bool_str, kit_tuple_tuple, kit_tuple_str, kit_tuple_int, kit_tuple_bool, kit_none_tuple, kit_none_str, kit_none_int, kit_none_bool, kit_list_tuple, kit_list_str, kit_list_int, nameG, tupGn, consG, nilG, Nat.lt_add_one, ixL, ixT, ixSc, ixAz, ixSS, appendF, Option.map_some, Option.map_none, wipeE, restE, forR, lcW, lcF, lcS, forS, forT, wipeS, extendF, yesT, int_i, int_b, putM, dicAt, putLM, rng1M, addF_ll, addF_ii, addF_tt, tupleF, sliceM, intM, dOpt, eqO_i, neO_i, eqO_S, neO_S, eqO_b, list2_l, list2_t, list2_d, inOF, Bool.false_xor, Bool.true_xor, Bool.true_and, Bool.and_true, Bool.false_and, Bool.and_false, Bool.true_or, Bool.false_or, Bool.or_true, Bool.or_false, ifLt, ifLe, at0, at1, at2, at3, ix0, ix1, ix2, ix3, ne_ss, ne_ps, kn_1, kn_2, kn_3, kn_4, kn_5, kn_6, kn_7, S_cps, mk_S, inF_sign, pow18, pow60, pow30, pow12, pow10, sl_tail, add_md, add_dmd, addSS, modZ, fdivZ, mulZR, mulZL, mulZ_l, S_len, $[$ts:term],*])
/-! books -/
abbrev Mk0 := List Nat × List (List Nat)
abbrev Kd := List Nat × List Mk0
abbrev Book := List Kd
def dMake (m : Mk0) : D := .tup [.str (S m.1), .tup (m.2.map dStr)]
def dKind (k : Kd) : D := .tup [.str (S k.1), .tup (k.2.map dMake)]
def dBook (b : Book) : D := .tup (b.map dKind)
/-- all makes of a kind -/
def allMk (b : Book) (k : List Nat) : List Mk0 := match b.find? (fun x => decide (x.1 = k)) with
  | some x => x.2
  | none => []

end Sc.Law
end
section
set_option Elab.async false
set_option linter.all false
set_option autoImplicit false
set_option maxRecDepth 100000
set_option maxHeartbeats 2000000
open PySem L2 Sc
namespace Sc.Law
local macro_rules | `(tactic| wp_walk using $ts,*) => `(tactic| simp (config := { decide := false }) (disch := (with_reducible refine Sz.mk ?_; first | assumption | omega | ((try simp only [List.length_append, List.length_cons, List.length_nil, List.length_map, List.length_replicate, O.toD, S_len]); omega))) only [fnRun, seqM, ifS, orT, andT, notT, andM, orM, notM, ifM, testM, viewB, view, M.bind, M.pure, M.stuck, nameM, constM, bltM, viewAll, consA, nilA, retM, opM, negM, chainM, isiM, tyName, strMM, tupM, lstM, freezeAll, freeze, setM, exprM, callM, callF, prep, lend, backM, wbAll, Rt.rv, iosOf, Arg.sl, List.map_cons, List.map_nil, List.length_cons, List.length_nil, Nat.zero_add, Nat.reduceAdd, Nat.reduceSub, Nat.reduceLT, Nat.reduceEqDiff, List.replicate_succ, List.replicate_zero, List.cons_append, List.nil_append, List.getElem?_cons_zero, List.getElem?_cons_succ, List.set_cons_zero, List.set_cons_succ, methM, isObj, fldM, dget, putFM, objAt, putD, slOf, mutM, lstAt, raiseM, skipM, O.toD, leF, ltF, gtF, geF, subF, iiF, if_true, if_false, Bool.false_eq_true, len_l, len_t, len_d, len_scr, len_s,  Bool.not_true, Bool.not_false, decide_true, decide_false, kit_str_str, kit_str_tuple, kit_str_int, kit_str_bool, kit_int_str, kit_int_int, kit_int_bool, kit_int_tuple, kit_bool_int, kit_bool_bool, kit_bool_tuple, kit_bool_str, kit_tuple_tuple, kit_tuple_str, kit_tuple_int, kit_tuple_bool, kit_none_tuple, kit_none_str, kit_none_int, kit_none_bool, kit_list_tuple, kit_list_str, kit_list_int, nameG, tupGn, consG, nilG, Nat.lt_add_one, ixL, ixT, ixSc, ixAz, ixSS, appendF, Option.map_some, Option.map_none, wipeE, restE, forR, lcW, lcF, lcS, forS, forT, wipeS, extendF, yesT, int_i, int_b, putM, dicAt, putLM, rng1M, addF_ll, addF_ii, addF_tt, tupleF, sliceM, intM, dOpt, eqO_i, neO_i, eqO_S, neO_S, eqO_b, list2_l, list2_t, list2_d, inOF, Bool.false_xor, Bool.true_xor, Bool.true_and, Bool.and_true, Bool.false_and, Bool.and_false, Bool.true_or, Bool.false_or, Bool.or_true, Bool.or_false, ifLt, ifLe, at0, at1, at2, at3, ix0, ix1, ix2, ix3, ne_ss, ne_ps, kn_1, kn_2, kn_3, kn_4, kn_5, kn_6, kn_7, S_cps, mk_S, inF_sign, pow18, pow60, pow30, pow12, pow10, sl_tail, add_md, add_dmd, addSS, modZ, fdivZ, mulZR, mulZL, mulZ_l, S_len, $[$ts:term],*])
theorem t_all_makes {n : Nat} (hn : 1 ≤ n) (b : Book) (k : List Nat) : T n .all_makes [.fz (dBook b), .fz (.str (S k))] = .ret (.fz (.tup ((allMk b k).map dMake))) [.fz (dBook b), .fz (.str (S k))] := by
  obtain ⟨n, rfl, hk⟩ := up1 hn
  show fnRun 4 (b_all_makes (T n)) _ = _
  unfold b_all_makes
  have h : l_all_makes_1 (T n) [.fz (dBook b), .fz (.str (S k)), .un, .un] = forR [.fz (dBook b), .fz (.str (S k)), .un, .un] (fun x => .fz (.tup (x.2.map dMake))) (fun x => [.fz (dBook b), .fz (.str (S k)), .fz (.str (S x.1)), .fz (.tup (x.2.map dMake))]) (b.find? (fun x => decide (x.1 = k))) := by
    unfold l_all_makes_1
    refine forM_find dKind _ _ _ _ b (by exact rfl) (fun x _ hx => ?_) fun x _ hx => ?_
    · unfold dKind
      wp_walk using hx
    · unfold dKind
      wp_walk using hx
  unfold allMk
  cases q : b.find? (fun x => decide (x.1 = k)) with
  | none =>
    rw [q] at h
    wp_walk using h
  | some x =>
    rw [q] at h
    wp_walk using h

end Sc.Law
end
section
set_option Elab.async false
set_option linter.all false
set_option autoImplicit false
set_option maxRecDepth 100000
set_option maxHeartbeats 2000000
open PySem L2 Sc
namespace Sc.Law
local macro_rules | `(tactic| wp_walk using $ts,*) => `(tactic| simp (config := { decide := false }) (disch := (with_reducible refine Sz.mk ?_; first | assumption | omega | ((try simp only [List.length_append, List.length_cons, List.length_nil, List.length_map, List.length_replicate, O.toD, S_len]); omega))) only [fnRun, seqM, ifS, orT, andT, notT, andM, orM, notM, ifM, testM, viewB, view, M.bind, M.pure, M.stuck, nameM, constM, bltM, viewAll, consA, nilA, retM, opM, negM, chainM, isiM, tyName, strMM, tupM, lstM, freezeAll, freeze, setM, exprM, callM, callF, prep, lend, backM, wbAll, Rt.rv, iosOf, Arg.sl, List.map_cons, List.map_nil, List.length_cons, List.length_nil, Nat.zero_add, Nat.reduceAdd, Nat.reduceSub, Nat.reduceLT, Nat.reduceEqDiff, List.replicate_succ, List.replicate_zero, List.cons_append, List.nil_append, List.getElem?_cons_zero, List.getElem?_cons_succ, List.set_cons_zero, List.set_cons_succ, methM, isObj, fldM, dget, putFM, objAt, putD, slOf, mutM, lstAt, raiseM, skipM, O.toD, leF, ltF, gtF, geF, subF, iiF, if_true, if_false, Bool.false_eq_true, len_l, len_t, len_d, len_scr, len_s,  Bool.not_true, Bool.not_false, decide_true, decide_false, kit_str_str, kit_str_tuple, kit_str_int, kit_str_bool, kit_int_str, kit_int_int, kit_int_bool, kit_int_tuple, kit_bool_int, kit_bool_bool, kit_bool_tuple, kit_bool_str, kit_tuple_tuple, kit_tuple_str, kit_tuple_int, kit_tuple_bool, kit_none_tuple, kit_none_str, kit_none_int, kit_none_bool, kit_list_tuple, kit_list_str, kit_list_int, nameG, tupGn, consG, nilG, Nat.lt_add_one, ixL, ixT, ixSc, ixAz, ixSS, appendF, Option.map_some, Option.map_none, wipeE, restE, forR, lcW, lcF, lcS, forS, forT, wipeS, extendF, yesT, int_i, int_b, putM, dicAt, putLM, rng1M, addF_ll, addF_ii, addF_tt, tupleF, sliceM, intM, dOpt, eqO_i, neO_i, eqO_S, neO_S, eqO_b, list2_l, list2_t, list2_d, inOF, Bool.false_xor, Bool.true_xor, Bool.true_and, Bool.and_true, Bool.false_and, Bool.and_false, Bool.true_or, Bool.false_or, Bool.or_true, Bool.or_false, ifLt, ifLe, at0, at1, at2, at3, ix0, ix1, ix2, ix3, ne_ss, ne_ps, kn_1, kn_2, kn_3, kn_4, kn_5, kn_6, kn_7, S_cps, mk_S, inF_sign, pow18, pow60, pow30, pow12, pow10, sl_tail, add_md, add_dmd, addSS, modZ, fdivZ, mulZR, mulZL, mulZ_l, S_len, $[$ts:term],*])
/-! a value's text -/
mutual
def vT : Val → List Nat
  | .num i => itL i
  | .mk m ps => m ++ brT (vTs ps)
def vTs : List Val → List (List Nat)
  | [] => []
  | v :: vs => vT v :: vTs vs
end
theorem vTs_map (vs : List Val) : vTs vs = vs.map vT := by
  induction vs with
  | nil => rfl
  | cons v vs ih => simp [vTs, ih]
mutual
/-- numbers of a size that str can write -/
def small : Val → Prop
  | .num i => i.natAbs < 2 ^ 1900
  | .mk _ ps => smalls ps
def smalls : List Val → Prop
  | [] => True
  | v :: vs => small v ∧ smalls vs
end
mutual
def dpV : Val → Nat
  | .num _ => 0
  | .mk _ ps => dpVs ps + 1
def dpVs : List Val → Nat
  | [] => 0
  | v :: vs => max (dpV v) (dpVs vs)
end
theorem smalls_mem {vs : List Val} (h : smalls vs) : ∀ v ∈ vs, small v := by
  induction vs with
  | nil => simp
  | cons a ds ih =>
    intro d hd
    rcases List.mem_cons.mp hd with rfl | q
    · exact h.1
    · exact ih h.2 d q
theorem dpVs_mem {vs : List Val} : ∀ v ∈ vs, dpV v ≤ dpVs vs := by
  induction vs with
  | nil => simp
  | cons a ds ih =>
    intro d hd
    simp only [dpVs]
    rcases List.mem_cons.mp hd with rfl | q
    · omega
    · have := ih d q; omega
theorem join_mem {sep : List Nat} {ls : List (List Nat)} : ∀ w ∈ ls, w.length ≤ (joinT sep ls).length := by
  intro w hw
  have := joinT_len sep ls
  cases ls with
  | nil => simp at hw
  | cons a ls =>
    rw [joinT_cons]
    rcases List.mem_cons.mp hw with rfl | q
    · simp
    · have : w.length ≤ (ls.flatMap (sep ++ ·)).length := by
        clear this hw
        induction ls with
        | nil => simp at q
        | cons b ls ih =>
          simp only [List.flatMap_cons, List.length_append]
          rcases List.mem_cons.mp q with rfl | q
          · omega
          · have := ih q; omega
      simp only [List.length_append]; omega
theorem join_cnt {ls : List (List Nat)} : ls.length ≤ (joinT [32] ls).length + 1 := by
  have := joinT_len [32] ls
  simp only [List.length_cons, List.length_nil] at this; omega
theorem t_written_value : ∀ (k n : Nat) (v : Val), dpV v ≤ k → small v → (vT v).length ≤ 10000000 → k + 2 ≤ n → T n .written_value [.fz (dVal v)] = .ret (.fz (.str (S (vT v)))) [.fz (dVal v)] := by
  intro k
  induction k with
  | zero =>
    intro n v hv hs hl hn
    obtain ⟨n, rfl, hk⟩ := up1 hn
    show fnRun 2 (b_written_value (T n)) _ = _
    unfold b_written_value
    cases v with
    | num i =>
      have h1 := str_it hs
      unfold dVal vT
      wp_walk using h1
    | mk m ps => simp [dpV] at hv
  | succ k ih =>
    intro n v hv hs hl hn
    obtain ⟨n, rfl, hk⟩ := up1 hn
    show fnRun 2 (b_written_value (T n)) _ = _
    unfold b_written_value
    cases v with
    | num i =>
      have h1 := str_it hs
      unfold dVal vT
      wp_walk using h1
    | mk m ps =>
      simp only [dpV, small, vT] at hv hs hl
      have hb := brT_len (vTs ps)
      have hc := join_cnt (ls := vTs ps)
      simp only [List.length_append] at hl
      have hlen : ps.length ≤ 10000001 := by have := congrArg List.length (vTs_map ps); simp at this; omega
      have h2 := t_brack_l (n := n) (by omega) m (vTs ps) (by simp only [List.length_append]; omega)
      have hcc : c_written_value_1 (T n) [.fz (.tup (.str (S m) :: dVals ps)), .un] = .ok (.own (.lst ((vTs ps).map dStr))) [.fz (.tup (.str (S m) :: dVals ps)), .un] := by
        unfold c_written_value_1
        rw [vTs_map, List.map_map]
        refine lcM_mapW dVal (dStr ∘ vT) ps (e1 := [.fz (.tup (.str (S m) :: dVals ps)), .un]) ?_ (by omega) (fun x hx => ?_)
        · rw [← dVals_map]
          unfold iterM
          wp_walk using sl_tail
        · have hm : (vT x).length ≤ (joinT [32] (vTs ps)).length := join_mem _ (by rw [vTs_map]; exact List.mem_map.mpr ⟨x, hx, rfl⟩)
          have h := ih n x (by have := dpVs_mem x hx; omega) (smalls_mem hs x hx) (by omega) hk
          unfold Function.comp dStr
          wp_walk using h
      simp only [dVal, vT]
      wp_walk using hcc, h2

end Sc.Law
end
section
set_option Elab.async false
set_option linter.all false
set_option autoImplicit false
set_option maxRecDepth 100000
set_option maxHeartbeats 2000000
open PySem L2 Sc
namespace Sc.Law
local macro_rules | `(tactic| wp_walk using $ts,*) => `(tactic| simp (config := { decide := false }) (disch := (with_reducible refine Sz.mk ?_; first | assumption | omega | ((try simp only [List.length_append, List.length_cons, List.length_nil, List.length_map, List.length_replicate, O.toD, S_len]); omega))) only [fnRun, seqM, ifS, orT, andT, notT, andM, orM, notM, ifM, testM, viewB, view, M.bind, M.pure, M.stuck, nameM, constM, bltM, viewAll, consA, nilA, retM, opM, negM, chainM, isiM, tyName, strMM, tupM, lstM, freezeAll, freeze, setM, exprM, callM, callF, prep, lend, backM, wbAll, Rt.rv, iosOf, Arg.sl, List.map_cons, List.map_nil, List.length_cons, List.length_nil, Nat.zero_add, Nat.reduceAdd, Nat.reduceSub, Nat.reduceLT, Nat.reduceEqDiff, List.replicate_succ, List.replicate_zero, List.cons_append, List.nil_append, List.getElem?_cons_zero, List.getElem?_cons_succ, List.set_cons_zero, List.set_cons_succ, methM, isObj, fldM, dget, putFM, objAt, putD, slOf, mutM, lstAt, raiseM, skipM, O.toD, leF, ltF, gtF, geF, subF, iiF, if_true, if_false, Bool.false_eq_true, len_l, len_t, len_d, len_scr, len_s,  Bool.not_true, Bool.not_false, decide_true, decide_false, kit_str_str, kit_str_tuple, kit_str_int, kit_str_bool, kit_int_str, kit_int_int, kit_int_bool, kit_int_tuple, kit_bool_int, kit_bool_bool, kit_bool_tuple, kit_bool_str, kit_tuple_tuple, kit_tuple_str, kit_tuple_int, kit_tuple_bool, kit_none_tuple, kit_none_str, kit_none_int, kit_none_bool, kit_list_tuple, kit_list_str, kit_list_int, nameG, tupGn, consG, nilG, Nat.lt_add_one, ixL, ixT, ixSc, ixAz, ixSS, appendF, Option.map_some, Option.map_none, wipeE, restE, forR, lcW, lcF, lcS, forS, forT, wipeS, extendF, yesT, int_i, int_b, putM, dicAt, putLM, rng1M, addF_ll, addF_ii, addF_tt, tupleF, sliceM, intM, dOpt, eqO_i, neO_i, eqO_S, neO_S, eqO_b, list2_l, list2_t, list2_d, inOF, Bool.false_xor, Bool.true_xor, Bool.true_and, Bool.and_true, Bool.false_and, Bool.and_false, Bool.true_or, Bool.false_or, Bool.or_true, Bool.or_false, ifLt, ifLe, at0, at1, at2, at3, ix0, ix1, ix2, ix3, ne_ss, ne_ps, kn_1, kn_2, kn_3, kn_4, kn_5, kn_6, kn_7, S_cps, mk_S, inF_sign, pow18, pow60, pow30, pow12, pow10, sl_tail, add_md, add_dmd, addSS, modZ, fdivZ, mulZR, mulZL, mulZ_l, S_len, $[$ts:term],*])
/-! which values are of a kind -/
mutual
def isV (b : Book) : List Nat → Val → Bool
  | k, .num _ => decide (k = numL)
  | k, .mk m ps => !decide (k = numL) && match (allMk b k).find? (fun x => decide (x.1 = m)) with
    | some x => decide (ps.length + 1 = x.2.length + 1) && isVs b x.2 ps
    | none => false
def isVs (b : Book) : List (List Nat) → List Val → Bool
  | f :: fs, v :: vs => isV b f v && isVs b fs vs
  | _, _ => true
end
theorem pairs_vals (fs : List (List Nat)) (vs : List Val) : pairsD (fs.map dStr) (dVals vs) = (fs.zip vs).map fun p => .tup [dStr p.1, dVal p.2] := by
  unfold pairsD
  rw [dVals_map, List.zip_map, List.map_map]
  rfl
theorem isVs_zip (b : Book) : ∀ (fs : List (List Nat)) (vs : List Val), isVs b fs vs = ((fs.zip vs).map fun p => isV b p.1 p.2).all fun x => x
  | [], vs => by cases vs <;> simp [isVs]
  | f :: fs, [] => by simp [isVs]
  | f :: fs, v :: vs => by simp only [isVs, List.zip_cons_cons, List.map_cons, List.all_cons, isVs_zip b fs vs]
theorem boolsB {α : Type} (p : α → Bool) : ∀ l : List α, boolsOf (l.map fun x => D.bl (p x)) = some (l.map p)
  | [] => rfl
  | a :: l => by simp only [List.map_cons, boolsOf, boolsB p l]
theorem allB {α : Type} (p : α → Bool) (l : List α) : allF [.lst (l.map fun x => D.bl (p x))] = some (.fz (.bl ((l.map p).all fun b => b))) := by
  show (boolsOf (l.map fun x => D.bl (p x))).map _ = _
  rw [boolsB]; rfl
theorem t_is_value (b : Book) : ∀ (k n : Nat) (kd : List Nat) (v : Val), dpV v ≤ k → (vT v).length ≤ 10000000 → 2 * k + 2 ≤ n → T n .is_value [.fz (dBook b), .fz (.str (S kd)), .fz (dVal v)] = .ret (.fz (.bl (isV b kd v))) [.fz (dBook b), .fz (.str (S kd)), .fz (dVal v)] := by
  have hnum : ∀ (n : Nat) (kd : List Nat) (i : Int), 2 ≤ n → T n .is_value [.fz (dBook b), .fz (.str (S kd)), .fz (.int i)] = .ret (.fz (.bl (decide (kd = numL)))) [.fz (dBook b), .fz (.str (S kd)), .fz (.int i)] := by
    intro n kd i hn
    obtain ⟨n, rfl, hk⟩ := up1 hn
    show fnRun 5 (b_is_value (T n)) _ = _
    unfold b_is_value
    have hw : T n .is_whole [.fz (.int i)] = .ret (.fz (.bl true)) [.fz (.int i)] := by
      obtain ⟨n, rfl, hk⟩ := up1 hk
      show fnRun 1 (b_is_whole (T n)) _ = _
      unfold b_is_whole
      wp_walk using decide_true
    cases hd : decide (kd = numL) with
    | true => wp_walk using hd, hw
    | false => wp_walk using hd
  intro k
  induction k with
  | zero =>
    intro n kd v hv hl hn
    cases v with
    | num i => exact hnum n kd i (by omega)
    | mk m ps => simp [dpV] at hv
  | succ k ih =>
    intro n kd v hv hl hn
    cases v with
    | num i => exact hnum n kd i (by omega)
    | mk m ps =>
      obtain ⟨n, rfl, hk⟩ := up1 (k := 2 * k + 3) (by omega)
      show fnRun 5 (b_is_value (T n)) _ = _
      unfold b_is_value
      simp only [dpV, vT, List.length_append] at hv hl
      have hb := brT_len (vTs ps)
      have hc := join_cnt (ls := vTs ps)
      have hlen : ps.length ≤ 10000001 := by have := congrArg List.length (vTs_map ps); simp at this; omega
      have hvl : (dVals ps).length = ps.length := by rw [dVals_map, List.length_map]
      simp only [dVal, isV]
      cases hd : decide (kd = numL) with
      | true =>
        have hw : T n .is_whole [.fz (.tup (.str (S m) :: dVals ps))] = .ret (.fz (.bl false)) [.fz (.tup (.str (S m) :: dVals ps))] := by
          obtain ⟨n, rfl, hk⟩ := up1 (k := 0) (n := n) (by omega)
          show fnRun 1 (b_is_whole (T n)) _ = _
          unfold b_is_whole
          wp_walk using decide_true
        wp_walk using hd, hw
      | false =>
        have ha := t_all_makes (n := n) (by omega) b kd
        have h0 : decide ((((.str (S m) :: dVals ps : List D)).length : Int) = 0) = false := decide_eq_false (by simp; omega)
        have har : ∀ fs : List (List Nat), fs.length = ps.length → T n .are_values [.fz (dBook b), .fz (.tup (fs.map dStr)), .fz (.tup (dVals ps))] = .ret (.fz (.bl (isVs b fs ps))) [.fz (dBook b), .fz (.tup (fs.map dStr)), .fz (.tup (dVals ps))] := by
          intro fs hfs
          obtain ⟨n, rfl, hk2⟩ := up1 (k := 2 * k + 2) (n := n) (by omega)
          show fnRun 5 (b_are_values (T n)) _ = _
          unfold b_are_values
          have hcc : c_are_values_1 (T n) [.fz (dBook b), .fz (.tup (fs.map dStr)), .fz (.tup (dVals ps)), .un, .un] = .ok (.own (.lst ((fs.zip ps).map fun p => .bl (isV b p.1 p.2)))) [.fz (dBook b), .fz (.tup (fs.map dStr)), .fz (.tup (dVals ps)), .un, .un] := by
            unfold c_are_values_1
            refine lcM_mapW (fun p : List Nat × Val => .tup [dStr p.1, dVal p.2]) (fun p => .bl (isV b p.1 p.2)) (fs.zip ps) (e1 := [.fz (dBook b), .fz (.tup (fs.map dStr)), .fz (.tup (dVals ps)), .un, .un]) ?_ (by simp; omega) (fun x hx => ?_)
            · rw [← pairs_vals]
              unfold zipM
              wp_walk using decide_true
            · have hx2 := (List.of_mem_zip hx).2
              have hm : (vT x.2).length ≤ (joinT [32] (vTs ps)).length := join_mem _ (by rw [vTs_map]; exact List.mem_map.mpr ⟨x.2, hx2, rfl⟩)
              have h := ih n x.1 x.2 (by have := dpVs_mem x.2 hx2; omega) (by omega) (by omega)
              unfold dStr
              wp_walk using h
          have hal := allB (fun p : List Nat × Val => isV b p.1 p.2) (fs.zip ps)
          rw [← isVs_zip] at hal
          wp_walk using hcc, hal
        have h : l_is_value_1 (T n) [.fz (dBook b), .fz (.str (S kd)), .fz (.tup (.str (S m) :: dVals ps)), .un, .un] = forR [.fz (dBook b), .fz (.str (S kd)), .fz (.tup (.str (S m) :: dVals ps)), .un, .un] (fun x => .fz (.bl (decide (ps.length + 1 = x.2.length + 1) && isVs b x.2 ps))) (fun x => [.fz (dBook b), .fz (.str (S kd)), .fz (.tup (.str (S m) :: dVals ps)), .fz (.str (S x.1)), .fz (.tup (x.2.map dStr))]) ((allMk b kd).find? (fun x => decide (x.1 = m))) := by
          unfold l_is_value_1
          refine forM_find dMake _ _ _ _ (allMk b kd) (by unfold iterM; wp_walk using ha) (fun x _ hx => ?_) fun x _ hx => ?_
          · unfold dMake
            wp_walk using hx
          · unfold dMake
            have e : decide ((((.str (S m) :: dVals ps : List D)).length : Int) = ((x.2.map dStr).length : Int) + 1) = decide (ps.length + 1 = x.2.length + 1) := by rw [decide_eq_decide]; simp only [List.length_cons, List.length_map, hvl]; omega
            cases he : decide (ps.length + 1 = x.2.length + 1) with
            | false =>
              rw [he] at e
              simp only [List.length_cons] at e
              wp_walk using hx, e
            | true =>
              rw [he] at e
              have hf := har x.2 (by have := of_decide_eq_true he; omega)
              simp only [List.length_cons] at e
              wp_walk using hx, e, hf
        cases q : (allMk b kd).find? (fun x => decide (x.1 = m)) with
        | none =>
          rw [q] at h
          simp only [List.length_cons] at h0
          wp_walk using hd, h0, h
        | some x =>
          rw [q] at h
          simp only [List.length_cons] at h0
          wp_walk using hd, h0, h

end Sc.Law
end
section
set_option Elab.async false
set_option linter.all false
set_option autoImplicit false
set_option maxRecDepth 100000
set_option maxHeartbeats 2000000
open PySem L2 Sc
namespace Sc.Law
local macro_rules | `(tactic| wp_walk using $ts,*) => `(tactic| simp (config := { decide := false }) (disch := (with_reducible refine Sz.mk ?_; first | assumption | omega | ((try simp only [List.length_append, List.length_cons, List.length_nil, List.length_map, List.length_replicate, O.toD, S_len]); omega))) only [fnRun, seqM, ifS, orT, andT, notT, andM, orM, notM, ifM, testM, viewB, view, M.bind, M.pure, M.stuck, nameM, constM, bltM, viewAll, consA, nilA, retM, opM, negM, chainM, isiM, tyName, strMM, tupM, lstM, freezeAll, freeze, setM, exprM, callM, callF, prep, lend, backM, wbAll, Rt.rv, iosOf, Arg.sl, List.map_cons, List.map_nil, List.length_cons, List.length_nil, Nat.zero_add, Nat.reduceAdd, Nat.reduceSub, Nat.reduceLT, Nat.reduceEqDiff, List.replicate_succ, List.replicate_zero, List.cons_append, List.nil_append, List.getElem?_cons_zero, List.getElem?_cons_succ, List.set_cons_zero, List.set_cons_succ, methM, isObj, fldM, dget, putFM, objAt, putD, slOf, mutM, lstAt, raiseM, skipM, O.toD, leF, ltF, gtF, geF, subF, iiF, if_true, if_false, Bool.false_eq_true, len_l, len_t, len_d, len_scr, len_s,  Bool.not_true, Bool.not_false, decide_true, decide_false, kit_str_str, kit_str_tuple, kit_str_int, kit_str_bool, kit_int_str, kit_int_int, kit_int_bool, kit_int_tuple, kit_bool_int, kit_bool_bool, kit_bool_tuple, kit_bool_str, kit_tuple_tuple, kit_tuple_str, kit_tuple_int, kit_tuple_bool, kit_none_tuple, kit_none_str, kit_none_int, kit_none_bool, kit_list_tuple, kit_list_str, kit_list_int, nameG, tupGn, consG, nilG, Nat.lt_add_one, ixL, ixT, ixSc, ixAz, ixSS, appendF, Option.map_some, Option.map_none, wipeE, restE, forR, lcW, lcF, lcS, forS, forT, wipeS, extendF, yesT, int_i, int_b, putM, dicAt, putLM, rng1M, addF_ll, addF_ii, addF_tt, tupleF, sliceM, intM, dOpt, eqO_i, neO_i, eqO_S, neO_S, eqO_b, list2_l, list2_t, list2_d, inOF, Bool.false_xor, Bool.true_xor, Bool.true_and, Bool.and_true, Bool.false_and, Bool.and_false, Bool.true_or, Bool.false_or, Bool.or_true, Bool.or_false, ifLt, ifLe, at0, at1, at2, at3, ix0, ix1, ix2, ix3, ne_ss, ne_ps, kn_1, kn_2, kn_3, kn_4, kn_5, kn_6, kn_7, S_cps, mk_S, inF_sign, pow18, pow60, pow30, pow12, pow10, sl_tail, add_md, add_dmd, addSS, modZ, fdivZ, mulZR, mulZL, mulZ_l, S_len, $[$ts:term],*])
/-! a value's text read -/
structure Wd (l : List Nat) : Prop where
  one : 1 ≤ l.length
  eight : l.length ≤ 8
  az : ∀ c ∈ l, 97 ≤ c ∧ c ≤ 122
theorem az_mem {c : Nat} : c ∈ azL ↔ 97 ≤ c ∧ c ≤ 122 := by
  constructor
  · intro h; simp [azL] at h; omega
  · intro h; simp [azL]; omega
/-! names of signs a to z, numbers of at most seventy figures -/
mutual
def okV : Val → Prop
  | .num i => i.natAbs < 10 ^ 70
  | .mk m ps => m ≠ [] ∧ (∀ c ∈ m, c ∈ azL) ∧ okVs ps
def okVs : List Val → Prop
  | [] => True
  | v :: vs => okV v ∧ okVs vs
end
theorem okVs_mem {vs : List Val} (h : okVs vs) : ∀ v ∈ vs, okV v := by
  induction vs with
  | nil => simp
  | cons a ds ih =>
    intro d hd
    rcases List.mem_cons.mp hd with rfl | q
    · exact h.1
    · exact ih h.2 d q
/-- no sign that a name, a number or brackets could go on with -/
def Nxv (r : List Nat) : Prop := ∀ c ∈ r.head?, c ∉ azL ∧ c ∉ digL ∧ c ≠ 40
theorem nxv_nil : Nxv [] := by intro c hc; simp at hc
theorem nxv_sp (r : List Nat) : Nxv (32 :: r) := by intro c hc; simp at hc; subst hc; decide
theorem nxv_rp (r : List Nat) : Nxv (41 :: r) := by intro c hc; simp at hc; subst hc; decide
theorem Nxv.dig {r : List Nat} (h : Nxv r) : Stop digL r := fun c hc => (h c hc).2.1
theorem Nxv.az {r : List Nat} (h : Nxv r) : Stop azL r := fun c hc => (h c hc).1
theorem Nxv.br {r : List Nat} (h : Nxv r) : [40].isPrefixOf r = false := by
  cases r with
  | nil => rfl
  | cons c r => have := (h c rfl).2.2; simp [List.isPrefixOf]; exact fun z => this z.symm
theorem itL_head (i : Int) : ∃ c l, itL i = c :: l ∧ c ∈ 45 :: digL := by
  by_cases h : 0 ≤ i
  · rw [itL_pos h]
    cases q : TL.numL i.toNat with
    | nil => exact absurd q (TL.numL_ne _)
    | cons c l => exact ⟨c, l, rfl, by have := numL_dig i.toNat c (by rw [q]; simp); simp [this]⟩
  · rw [itL_ng (by omega)]; exact ⟨45, _, rfl, by simp⟩
theorem mNum_it (i : Int) (r : List Nat) : mNum (itL i ++ r) = true := by
  obtain ⟨c, l, e, h⟩ := itL_head i
  rw [e]; simpa [mNum] using h
theorem mNum_az {m r : List Nat} (h : m ≠ []) (ha : ∀ c ∈ m, c ∈ azL) : mNum (m ++ r) = false := by
  cases m with
  | nil => exact absurd rfl h
  | cons c m =>
    have := az_mem.mp (ha c (by simp))
    have h2 : c ∉ 45 :: digL := by
      intro z
      rcases List.mem_cons.mp z with z | z
      · omega
      · have := dig_mem.mp z; omega
    simpa [mNum] using h2
theorem brT_app (w : List Nat) (ws : List (List Nat)) (r : List Nat) : brT (w :: ws) ++ r = 40 :: (w ++ (ws.flatMap ([32] ++ ·) ++ 41 :: r)) := by simp [brT, joinT_cons]
theorem isp (c : Nat) (r : List Nat) : [c].isPrefixOf (c :: r) = true := by simp [List.isPrefixOf]
theorem isp_ne {c d : Nat} (r : List Nat) (h : c ≠ d) : [c].isPrefixOf (d :: r) = false := by simp [List.isPrefixOf, h]
/-- many things behind a sign each -/
theorem pMany_text {α : Type} {p : List Nat → Option (α × List Nat)} {w : List Nat} {t : α → List Nat} {stop : List Nat} (hw : w.isPrefixOf stop = false) : ∀ (vs : List α) (k : Nat), vs.length ≤ k → (∀ v ∈ vs, ∀ r, (∃ u, r = w ++ u) ∨ r = stop → p (t v ++ r) = some (v, r)) → pMany p w k (vs.flatMap (fun v => w ++ t v) ++ stop) = some (vs, stop)
  | [], k, _, _ => by
    cases k with
    | zero => rfl
    | succ k => simp only [List.flatMap_nil, List.nil_append, pMany, hw, Bool.false_eq_true, if_false]
  | v :: vs, 0, h, _ => by simp at h
  | v :: vs, k + 1, h, hp => by
    have e : (v :: vs).flatMap (fun v => w ++ t v) ++ stop = w ++ (t v ++ (vs.flatMap (fun v => w ++ t v) ++ stop)) := by simp
    have h1 : w.isPrefixOf (w ++ (t v ++ (vs.flatMap (fun v => w ++ t v) ++ stop))) = true := List.isPrefixOf_iff_prefix.mpr (List.prefix_append _ _)
    have h2 := hp v (by simp) (vs.flatMap (fun v => w ++ t v) ++ stop) (by
      cases vs with
      | nil => exact .inr rfl
      | cons u us => exact .inl ⟨t u ++ (us.flatMap (fun v => w ++ t v) ++ stop), by simp⟩)
    have ih := pMany_text hw vs k (by simpa using h) fun u hu => hp u (by simp [hu])
    rw [e, pMany, if_pos h1, List.drop_left, h2]
    dsimp only
    rw [ih]
theorem pVal_vT : ∀ (room : Nat) (v : Val), okV v → dpV v ≤ room → ∀ r, Nxv r → pVal room (vT v ++ r) = some (v, r) := by
  have hn : ∀ (room : Nat) (i : Int), i.natAbs < 10 ^ 70 → ∀ r, Nxv r → pVal room (itL i ++ r) = some (.num i, r) := by
    intro room i hi r hr
    have h := pNum_it hi hr.dig
    cases room <;> simp only [pVal, mNum_it, if_true, h, Option.map_some]
  intro room
  induction room with
  | zero =>
    intro v ho hd r hr
    cases v with
    | num i => exact hn 0 i ho r hr
    | mk m ps => simp [dpV] at hd
  | succ room ih =>
    intro v ho hd r hr
    cases v with
    | num i => exact hn _ i ho r hr
    | mk m ps =>
      obtain ⟨h1, h2, h3⟩ := ho
      simp only [dpV] at hd
      simp only [vT, List.append_assoc, pVal, mNum_az h1 h2, Bool.false_eq_true, if_false]
      have st : Stop azL (brT (vTs ps) ++ r) := by
        cases ps with
        | nil => exact hr.az
        | cons p ps =>
          simp only [vTs]; rw [brT_app]
          intro c hc; simp at hc; subst hc; decide
      obtain ⟨t1, t2⟩ := tk_stop h2 st
      rw [t1, t2, if_neg h1]
      cases ps with
      | nil =>
        have e : brT (vTs []) ++ r = r := rfl
        rw [e]
        unfold pParts
        rw [hr.br]; rfl
      | cons p ps =>
        simp only [vTs]
        rw [brT_app]
        have ho' := okVs_mem h3
        have hd' : ∀ v ∈ p :: ps, dpV v ≤ room := fun v hv => by have := dpVs_mem (vs := p :: ps) v hv; omega
        have e : (vTs ps).flatMap ([32] ++ ·) = ps.flatMap fun v => [32] ++ vT v := by rw [vTs_map, List.flatMap_map]
        rw [e]
        have h4 : pVal room (vT p ++ (ps.flatMap (fun v => [32] ++ vT v) ++ 41 :: r)) = some (p, ps.flatMap (fun v => [32] ++ vT v) ++ 41 :: r) := ih p (ho' p (by simp)) (hd' p (by simp)) _ (by
          cases ps with
          | nil => exact nxv_rp r
          | cons q qs => exact nxv_sp _)
        have hlen : ps.length ≤ (ps.flatMap (fun v => [32] ++ vT v) ++ 41 :: r).length := by
          have : ps.length ≤ (ps.flatMap (fun v => [32] ++ vT v)).length := by
            clear e h4 ho' hd' st t1 t2 h3 hd
            induction ps with
            | nil => simp
            | cons q qs ih => simp only [List.flatMap_cons, List.length_append, List.length_cons] at *; omega
          simp only [List.length_append]; omega
        have h5 := pMany_text (p := pVal room) (w := [32]) (t := vT) (stop := 41 :: r) (isp_ne _ (by decide)) ps _ hlen fun v hv r' hr' => ih v (ho' v (by simp [hv])) (hd' v (by simp [hv])) r' (by
          rcases hr' with ⟨u, rfl⟩ | rfl
          · exact nxv_sp u
          · exact nxv_rp r)
        unfold pParts
        rw [isp, if_pos rfl]
        simp only [List.drop_succ_cons, List.drop_zero, h4, h5, isp, if_true]
theorem t_strip_of {n : Nat} (hn : 2 ≤ n) (l : List Nat) : T n .strip_of [.fz (.str (S l))] = .ret (.own (stR l l)) [.fz (.str (S l))] := by
  obtain ⟨n, rfl, hk⟩ := up1 hn
  show fnRun 1 (b_strip_of (T n)) _ = _
  have h1 := t_init hk l
  unfold b_strip_of
  unfold stR at h1 ⊢
  wp_walk using newM, newF, h1
/-- what read_value tells -/
def rdVal (b : Book) (k l : List Nat) : Option Val := match pVal 30 l with
  | some (v, []) => if isV b k v ∧ vT v = l then some v else none
  | _ => none
theorem pMany_ok {α : Type} {p : List Nat → Option (α × List Nat)} {w : List Nat} (Q : α → Prop) (t : α → Nat) (hp : ∀ r a r', p r = some (a, r') → Q a ∧ t a + r'.length ≤ r.length) : ∀ (k : Nat) (r : List Nat) (as : List α) (r' : List Nat), pMany p w k r = some (as, r') → (∀ a ∈ as, Q a) ∧ (as.map fun a => t a + w.length).sum + r'.length ≤ r.length
  | 0, r, as, r', h => by simp [pMany] at h; obtain ⟨rfl, rfl⟩ := h; simp
  | k + 1, r, as, r', h => by
    unfold pMany at h
    split at h
    · rename_i hw
      have hl := (List.isPrefixOf_iff_prefix.mp hw).length_le
      cases q : p (r.drop w.length) with
      | none => rw [q] at h; cases h
      | some x =>
        obtain ⟨a, r1⟩ := x
        rw [q] at h
        dsimp only at h
        obtain ⟨q1, q2⟩ := hp _ _ _ q
        rw [List.length_drop] at q2
        cases q3 : pMany p w k r1 with
        | none => rw [q3] at h; cases h
        | some y =>
          obtain ⟨bs, r2⟩ := y
          rw [q3] at h
          simp only [Option.some.injEq, Prod.mk.injEq] at h
          obtain ⟨rfl, rfl⟩ := h
          obtain ⟨i1, i2⟩ := pMany_ok Q t hp k r1 bs r2 q3
          refine ⟨fun b hb => ?_, ?_⟩
          · rcases List.mem_cons.mp hb with rfl | z
            · exact q1
            · exact i1 b z
          · simp only [List.map_cons, List.sum_cons]; omega
    · simp at h; obtain ⟨rfl, rfl⟩ := h; simp
theorem brT_sum (ws : List (List Nat)) (w : List Nat) : (brT (w :: ws)).length = w.length + (ws.map fun a => a.length + 1).sum + 2 := by
  have : brT (w :: ws) = 40 :: (w ++ ws.flatMap ([32] ++ ·)) ++ [41] := by simp [brT, joinT_cons]
  rw [this]
  have e : (ws.flatMap ([32] ++ ·)).length = (ws.map fun a => a.length + 1).sum := by
    induction ws with
    | nil => rfl
    | cons a ws ih => simp only [List.flatMap_cons, List.length_append, List.length_cons, List.length_nil, List.map_cons, List.sum_cons] at *; rw [ih (by simp [brT, joinT_cons])]; omega
  simp only [List.length_append, List.length_cons, List.length_nil, e]
theorem dpVs_le {vs : List Val} {k : Nat} (h : ∀ v ∈ vs, dpV v ≤ k) : dpVs vs ≤ k := by
  induction vs with
  | nil => simp [dpVs]
  | cons v vs ih =>
    have := ih fun u hu => h u (by simp [hu])
    have := h v (by simp)
    simp only [dpVs]; omega
theorem okVs_of {vs : List Val} (h : ∀ v ∈ vs, okV v) : okVs vs := by
  induction vs with
  | nil => trivial
  | cons v vs ih => exact ⟨h v (by simp), ih fun u hu => h u (by simp [hu])⟩
theorem pVal_ok : ∀ (room : Nat) (r : List Nat) (v : Val) (r' : List Nat), pVal room r = some (v, r') → (okV v ∧ dpV v ≤ room) ∧ (vT v).length + r'.length ≤ r.length := by
  have hn : ∀ (room : Nat) (r : List Nat) (v : Val) (r' : List Nat), ((pNum r).map fun x => (Val.num x.1, x.2)) = some (v, r') → (okV v ∧ dpV v ≤ room) ∧ (vT v).length + r'.length ≤ r.length := by
    intro room r v r' h
    cases q : pNum r with
    | none => rw [q] at h; cases h
    | some x =>
      obtain ⟨i, r1⟩ := x
      rw [q] at h
      simp only [Option.map_some, Option.some.injEq, Prod.mk.injEq] at h
      obtain ⟨rfl, rfl⟩ := h
      obtain ⟨h1, h2⟩ := pNum_ok q
      exact ⟨⟨h1, by simp [dpV]⟩, by simpa [vT] using h2⟩
  intro room
  induction room with
  | zero =>
    intro r v r' h
    unfold pVal at h
    split at h
    · exact hn 0 r v r' h
    · cases h
  | succ room ih =>
    intro r v r' h
    unfold pVal at h
    split at h
    · exact hn _ r v r' h
    · split at h
      · cases h
      · rename_i h0
        have e := congrArg List.length (tk_dr azL r)
        rw [List.length_append] at e
        have haz : ∀ c ∈ tk azL r, c ∈ azL := fun c hc => tk_mem c hc
        generalize tk azL r = m at *
        generalize dr azL r = q at *
        cases hp : pParts (pVal room) q with
        | none => rw [hp] at h; cases h
        | some x =>
          obtain ⟨vs, r1⟩ := x
          rw [hp] at h
          simp only [Option.some.injEq, Prod.mk.injEq] at h
          obtain ⟨rfl, rfl⟩ := h
          unfold pParts at hp
          split at hp
          · rename_i hb
            have hbl := (List.isPrefixOf_iff_prefix.mp hb).length_le
            simp only [List.length_cons, List.length_nil] at hbl
            cases q1 : pVal room (q.drop 1) with
            | none => rw [q1] at hp; cases hp
            | some y =>
              obtain ⟨v0, r2⟩ := y
              rw [q1] at hp
              dsimp only at hp
              obtain ⟨a1, a2⟩ := ih _ _ _ q1
              rw [List.length_drop] at a2
              cases q2 : pMany (pVal room) [32] r2.length r2 with
              | none => rw [q2] at hp; cases hp
              | some z =>
                obtain ⟨us, r3⟩ := z
                rw [q2] at hp
                dsimp only at hp
                obtain ⟨b1, b2⟩ := pMany_ok (fun v => okV v ∧ dpV v ≤ room) (fun v => (vT v).length) ih _ _ _ _ q2
                split at hp
                · rename_i hc
                  have hcl := (List.isPrefixOf_iff_prefix.mp hc).length_le
                  simp only [Option.some.injEq, Prod.mk.injEq] at hp
                  obtain ⟨rfl, rfl⟩ := hp
                  have hall : ∀ v ∈ v0 :: us, okV v ∧ dpV v ≤ room := fun v hv => by
                    rcases List.mem_cons.mp hv with rfl | z
                    · exact a1
                    · exact b1 v z
                  refine ⟨⟨⟨h0, haz, okVs_of fun v hv => (hall v hv).1⟩, ?_⟩, ?_⟩
                  · have := dpVs_le fun v hv => (hall v hv).2
                    simp only [dpV]; omega
                  · have := brT_sum (vTs us) (vT v0)
                    have e2 : ((vTs us).map fun a => a.length + 1).sum = (us.map fun v => (vT v).length + [32].length).sum := by rw [vTs_map, List.map_map]; rfl
                    simp only [vT, vTs, List.length_append]
                    simp only [List.length_drop, List.length_cons, List.length_nil] at *
                    omega
                · cases hp
          · simp only [Option.some.injEq, Prod.mk.injEq] at hp
            obtain ⟨rfl, rfl⟩ := hp
            refine ⟨⟨⟨h0, haz, trivial⟩, by simp [dpV, dpVs]⟩, ?_⟩
            simp only [vT, vTs, brT, if_true, List.append_nil]; omega
mutual
theorem okV.sm : ∀ {v : Val}, okV v → small v
  | .num i, h => p70 h
  | .mk m ps, h => okVs.sm h.2.2
theorem okVs.sm : ∀ {vs : List Val}, okVs vs → smalls vs
  | [], _ => trivial
  | v :: vs, h => ⟨okV.sm h.1, okVs.sm h.2⟩
end
theorem t_read_value {n : Nat} (hn : 64 ≤ n) (b : Book) (k l : List Nat) (hl : l.length ≤ 1000000) :
    T n .read_value [.fz (dBook b), .fz (.str (S k)), .fz (.str (S l))] = match rdVal b k l with
      | some v => .ret (.fz (dVal v)) [.fz (dBook b), .fz (.str (S k)), .fz (.str (S l))]
      | none => .exc nt [.fz (dBook b), .fz (.str (S k)), .fz (.str (S l))] := by
  obtain ⟨n, rfl, hk⟩ := up1 (k := 63) (by omega)
  show fnRun 5 (b_read_value (T n)) _ = _
  have h1 := t_strip_of (n := n) (by omega) l
  have h2 := t_value_read (l := l) (by omega) 30 n (by omega) l (List.suffix_refl l)
  have e30 : ((30 : Nat) : Int) = 30 := rfl
  rw [e30] at h2
  unfold b_read_value rdVal
  cases hp : pVal 30 l with
  | none =>
    rw [hp] at h2
    obtain ⟨r', s', g⟩ := h2
    unfold stR at *
    wp_walk using h1, g
  | some x =>
    obtain ⟨v, r⟩ := x
    rw [hp] at h2
    obtain ⟨s', l', g⟩ := h2
    have h3 := t_ends_well (n := n) (by omega) s' (by omega)
    obtain ⟨⟨o1, o2⟩, o3⟩ := pVal_ok 30 l v r hp
    have h4 := t_is_value b 30 n k v o2 (by omega) (by omega)
    have h5 := t_written_value 30 n v o2 o1.sm (by omega) (by omega)
    cases r with
    | cons c r =>
      rw [if_neg (by simp)] at h3
      dsimp only
      unfold stR at *
      wp_walk using h1, g, h3
    | nil =>
      rw [if_pos rfl] at h3
      dsimp only
      cases hv : isV b k v with
      | false =>
        rw [hv] at h4
        rw [if_neg (by simp)]
        dsimp only
        unfold stR at *
        wp_walk using h1, g, h3, h4
      | true =>
        rw [hv] at h4
        by_cases ht : vT v = l
        · rw [if_pos ⟨rfl, ht⟩]
          have e : decide (vT v = l) = true := decide_eq_true ht
          dsimp only
          unfold stR at *
          wp_walk using h1, g, h3, h4, h5, e
        · rw [if_neg (by simp [ht])]
          have e : decide (vT v = l) = false := decide_eq_false ht
          dsimp only
          unfold stR at *
          wp_walk using h1, g, h3, h4, h5, e
/-- a text that is written is read -/
theorem rdVal_vT {b : Book} {k : List Nat} {v : Val} (h : isV b k v = true) (ho : okV v) (hd : dpV v ≤ 30) : rdVal b k (vT v) = some v := by
  have := pVal_vT 30 v ho hd [] nxv_nil
  rw [List.append_nil] at this
  unfold rdVal
  rw [this]
  simp [h]

end Sc.Law
end
section
set_option Elab.async false
set_option linter.all false
set_option autoImplicit false
set_option maxRecDepth 100000
set_option maxHeartbeats 2000000
open PySem L2 Sc
namespace Sc.Law
local macro_rules | `(tactic| wp_walk using $ts,*) => `(tactic| simp (config := { decide := false }) (disch := (with_reducible refine Sz.mk ?_; first | assumption | omega | ((try simp only [List.length_append, List.length_cons, List.length_nil, List.length_map, List.length_replicate, O.toD, S_len]); omega))) only [fnRun, seqM, ifS, orT, andT, notT, andM, orM, notM, ifM, testM, viewB, view, M.bind, M.pure, M.stuck, nameM, constM, bltM, viewAll, consA, nilA, retM, opM, negM, chainM, isiM, tyName, strMM, tupM, lstM, freezeAll, freeze, setM, exprM, callM, callF, prep, lend, backM, wbAll, Rt.rv, iosOf, Arg.sl, List.map_cons, List.map_nil, List.length_cons, List.length_nil, Nat.zero_add, Nat.reduceAdd, Nat.reduceSub, Nat.reduceLT, Nat.reduceEqDiff, List.replicate_succ, List.replicate_zero, List.cons_append, List.nil_append, List.getElem?_cons_zero, List.getElem?_cons_succ, List.set_cons_zero, List.set_cons_succ, methM, isObj, fldM, dget, putFM, objAt, putD, slOf, mutM, lstAt, raiseM, skipM, O.toD, leF, ltF, gtF, geF, subF, iiF, if_true, if_false, Bool.false_eq_true, len_l, len_t, len_d, len_scr, len_s,  Bool.not_true, Bool.not_false, decide_true, decide_false, kit_str_str, kit_str_tuple, kit_str_int, kit_str_bool, kit_int_str, kit_int_int, kit_int_bool, kit_int_tuple, kit_bool_int, kit_bool_bool, kit_bool_tuple, kit_bool_str, kit_tuple_tuple, kit_tuple_str, kit_tuple_int, kit_tuple_bool, kit_none_tuple, kit_none_str, kit_none_int, kit_none_bool, kit_list_tuple, kit_list_str, kit_list_int, nameG, tupGn, consG, nilG, Nat.lt_add_one, ixL, ixT, ixSc, ixAz, ixSS, appendF, Option.map_some, Option.map_none, wipeE, restE, forR, lcW, lcF, lcS, forS, forT, wipeS, extendF, yesT, int_i, int_b, putM, dicAt, putLM, rng1M, addF_ll, addF_ii, addF_tt, tupleF, sliceM, intM, dOpt, eqO_i, neO_i, eqO_S, neO_S, eqO_b, list2_l, list2_t, list2_d, inOF, Bool.false_xor, Bool.true_xor, Bool.true_and, Bool.and_true, Bool.false_and, Bool.and_false, Bool.true_or, Bool.false_or, Bool.or_true, Bool.or_false, ifLt, ifLe, at0, at1, at2, at3, ix0, ix1, ix2, ix3, ne_ss, ne_ps, kn_1, kn_2, kn_3, kn_4, kn_5, kn_6, kn_7, S_cps, mk_S, inF_sign, pow18, pow60, pow30, pow12, pow10, sl_tail, add_md, add_dmd, addSS, modZ, fdivZ, mulZR, mulZL, mulZ_l, S_len, $[$ts:term],*])
/-! names called -/
theorem joinT_one : ∀ cs : List Nat, joinT [] (cs.map fun c => [c]) = cs
  | [] => rfl
  | c :: cs => by
    rw [List.map_cons, joinT_cons]
    have : (cs.map fun c => [c]).flatMap ([] ++ ·) = cs := by
      induction cs with
      | nil => rfl
      | cons d ds ih => simpa using ih
    rw [this]; rfl
/-- a drawn digit as a natural number -/
theorem t_nextN {n : Nat} (hn : 1 ≤ n) {p : List D} (h : Pl p) {base : Int} (hb : 0 < base) (hb2 : base < 2 ^ 200) :
    ∃ (d : Nat) (p' : List D), (d : Int) < base ∧ Pl p' ∧ T n ._law_next [.io (.lst p), .fz (.int base)] = .ret (.fz (.int (d : Int))) [.io (.lst p'), .fz (.int base)] := by
  obtain ⟨d, p', h0, h1, h2, h3⟩ := t_next hn h hb hb2
  obtain ⟨k, rfl⟩ := Int.eq_ofNat_of_zero_le h0
  exact ⟨k, p', h1, h2, h3⟩
def cE (p : List D) (m : Int) : Ev := [.io (.lst p), .fz (.int m), .fz (.str (S azL)), .un, .un, .un, .un, .un, .un, .un]
theorem c_calls {n : Nat} (hn : 1 ≤ n) {p : List D} (h : Pl p) (m : Int) : ∃ (cs : List Nat) (p' : List D), Pl p' ∧ cs.length ≤ 6 ∧ (∀ c ∈ cs, c ∈ azL) ∧ c__law_calls_1 (T n) (cE p m) = .ok (.own (.lst (cs.map fun c => .str (S [c])))) (cE p' m) := by
  obtain ⟨k, p1, k1, P1, h1⟩ := t_nextN hn h (base := 7) (by decide) (by decide)
  unfold c__law_calls_1
  have hG : consA (callM [true, false] (T n ._law_next) (consA (nameM 0) (consA (constM (.int 7)) nilA))) nilA (cE p m) = .ok [.fz (.int (k : Int))] (cE p1 m) := by
    unfold cE
    wp_walk using h1
  obtain ⟨acc, e2, q1, q2, q3⟩ := lcM_invW (vs := [8]) (g := nameG 8) (T := yesT) (A := opM ixF (nameM 2) (callM [true, false] (T n ._law_next) (consA (nameM 0) (consA (constM (.int 26)) nilA))))
    (fun acc e => ∃ (cs : List Nat) (p' : List D), acc = cs.map (fun c => D.str (S [c])) ∧ (∀ c ∈ cs, c ∈ azL) ∧ Pl p' ∧ e = cE p' m) (rng1_of (by omega) hG) (by rw [range_len]; omega) ⟨[], p1, rfl, by simp, P1, rfl⟩ (fun d hd acc e ⟨cs, p', ha, hz, hp, he⟩ => by
      subst ha he
      obtain ⟨j, p2, j1, P2, h2⟩ := t_nextN hn hp (base := 26) (by decide) (by decide)
      have t1 := az_at (d := j) (by omega)
      refine ⟨.str (S [97 + j]), cE p2 m, ?_, cs ++ [97 + j], p2, by simp, ?_, P2, rfl⟩
      · unfold cE
        wp_walk using h2, t1, show azL.length ≤ sizeLine ↔ True from ⟨fun _ => trivial, fun _ => by decide⟩
      · intro c hc
        rcases List.mem_append.mp hc with q | q
        · exact hz c q
        · simp at q; subst q; exact az_mem.mpr ⟨by omega, by omega⟩)
  obtain ⟨cs, p', rfl, hz, hp, rfl⟩ := q2
  refine ⟨cs, p', hp, ?_, hz, q1⟩
  rw [range_len] at q3
  simp at q3; omega
/-- the k-th name -/
def nmF (base : List Nat) (at_ first : Nat) (tails : Bool) (k : Nat) : List Nat :=
  base.take at_ ++ [97 + (first + 5 * k) % 26] ++ base.drop at_ ++ (if tails && decide (k % 2 = 1) then [97 + (first + k) % 26] else [])
/-- a turn of the loop, over variables -/
theorem calls_step (T : Fn → Fun) (s0 s1 : Sl) (base x1 x2 : List Nat) (a f tl k f1 f2 : Int) (y1 y2 : Nat) (ds : List D) (b1 b2 : Bool) (hd : ds.length < 16000000) (l1 : x1.length ≤ 6) (l2 : x2.length ≤ 6)
    (i1 : (f + 5 * k) % 26 = f1) (i2 : (f + k) % 26 = f2) (a1 : atI azL f1 = some y1) (a2 : atI azL f2 = some y2)
    (s1' : slF (.str (S base)) none (some a) = some (.fz (.str (S x1)))) (s2' : slF (.str (S base)) (some a) none = some (.fz (.str (S x2)))) (e1 : decide (tl = 1) = b1) (e2 : decide (k % 2 = 1) = b2) :
    forT (nameG 8) (wipeS [8, 9] (seqM (setM 9 (opM addF (opM addF (sliceM (nameM 3) (constM .non) (intM (nameM 4))) (opM ixF (nameM 2) (opM modF (opM addF (nameM 5) (opM mulF2 (constM (.int 5)) (nameM 8))) (constM (.int 26))))) (sliceM (nameM 3) (intM (nameM 4)) (constM .non))))
    (seqM (ifS (andT (testM (opM eqOF2 (nameM 6) (constM (.int 1)))) (testM (opM eqOF2 (opM modF (nameM 8) (constM (.int 2))) (constM (.int 1))))) (setM 9 (opM addF (nameM 9) (opM ixF (nameM 2) (opM modF (opM addF (nameM 5) (nameM 8)) (constM (.int 26)))))) skipM)
    (exprM (mutM appendF 7 (consA (nameM 9) nilA)))))) (.int k) [s0, s1, .fz (.str (S azL)), .fz (.str (S base)), .fz (.int a), .fz (.int f), .fz (.int tl), .own (.lst ds), .un, .un] =
      .ok .nx [s0, s1, .fz (.str (S azL)), .fz (.str (S base)), .fz (.int a), .fz (.int f), .fz (.int tl), .own (.lst (ds ++ [.str (S (x1 ++ [y1] ++ x2 ++ (if b1 && b2 then [y2] else [])))])), .un, .un] := by
  have hz : (azL.length ≤ sizeLine) = True := eq_true (by decide)
  cases b1 with
  | false => wp_walk using i1, a1, s1', s2', e1, hz, List.append_nil
  | true =>
    cases b2 with
    | false => wp_walk using i1, a1, s1', s2', e1, e2, hz, List.append_nil
    | true => wp_walk using i1, i2, a1, a2, s1', s2', e1, e2, hz
theorem l_calls (n : Nat) (p : List D) (m : Nat) (hm : m ≤ 1000) (base : List Nat) (hb : base.length ≤ 6) (at_ first tails : Nat) (ha : at_ ≤ base.length) (hf : first < 26) :
    l__law_calls_1 (T n) [.io (.lst p), .fz (.int (m : Int)), .fz (.str (S azL)), .fz (.str (S base)), .fz (.int (at_ : Int)), .fz (.int (first : Int)), .fz (.int (tails : Int)), .own (.lst []), .un, .un] =
      .ok .nx [.io (.lst p), .fz (.int (m : Int)), .fz (.str (S azL)), .fz (.str (S base)), .fz (.int (at_ : Int)), .fz (.int (first : Int)), .fz (.int (tails : Int)), .own (.lst (((List.range m).map (nmF base at_ first (decide (tails = 1)))).map dStr)), .un, .un] := by
  unfold l__law_calls_1
  rw [List.map_map]
  have hI := rng1_of (m := m) (G := consA (nameM 1) nilA) (e := [.io (.lst p), .fz (.int (m : Int)), .fz (.str (S azL)), .fz (.str (S base)), .fz (.int (at_ : Int)), .fz (.int (first : Int)), .fz (.int (tails : Int)), .own (.lst []), .un, .un]) (e' := [.io (.lst p), .fz (.int (m : Int)), .fz (.str (S azL)), .fz (.str (S base)), .fz (.int (at_ : Int)), .fz (.int (first : Int)), .fz (.int (tails : Int)), .own (.lst []), .un, .un]) (by omega) rfl
  rw [range0] at hI
  refine forM_push (fun k : Nat => D.int (k : Int)) (dStr ∘ nmF base at_ first (decide (tails = 1))) (fun ds => [.io (.lst p), .fz (.int (m : Int)), .fz (.str (S azL)), .fz (.str (S base)), .fz (.int (at_ : Int)), .fz (.int (first : Int)), .fz (.int (tails : Int)), .own (.lst ds), .un, .un]) [] (List.range m) hI (by simp; omega) fun k hk ds hd => ?_
  have hk := List.mem_range.mp hk
  have hf1 : ((first : Int) + 5 * (k : Int)) % 26 = (((first + 5 * k) % 26 : Nat) : Int) := by omega
  have hf2 : ((first : Int) + (k : Int)) % 26 = (((first + k) % 26 : Nat) : Int) := by omega
  have he1 : decide ((tails : Int) = 1) = decide (tails = 1) := decide_eq_decide.mpr (by omega)
  have he2 : decide ((k : Int) % 2 = 1) = decide (k % 2 = 1) := decide_eq_decide.mpr (by omega)
  have := calls_step (T n) (.io (.lst p)) (.fz (.int (m : Int))) base (base.take at_) (base.drop at_) (at_ : Int) (first : Int) (tails : Int) (k : Int) _ _ _ _ ds _ _ hd (by simp; omega) (by simp; omega) hf1 hf2 (az_at (by omega)) (az_at (by omega)) (sl_lo base at_ (by omega)) (sl_hi base at_ (by omega)) he1 he2
  unfold Function.comp dStr nmF
  exact this
/-- many names -/
def Nms (names : List (List Nat)) (m : Nat) : Prop := ∃ (base : List Nat) (at_ first : Nat) (t : Bool), base.length ≤ 6 ∧ (∀ c ∈ base, c ∈ azL) ∧ at_ ≤ base.length ∧ first < 26 ∧ names = (List.range m).map (nmF base at_ first t)
theorem calls_walk (n : Nat) (p p1 p2 p3 p4 ds0 ds : List D) (m L a f t : Int) (cs : List Nat)
    (h1 : c__law_calls_1 (T n) [.io (.lst p), .fz (.int m), .fz (.str (S azL)), .un, .un, .un, .un, .un, .un, .un] = .ok (.own (.lst ds0)) [.io (.lst p1), .fz (.int m), .fz (.str (S azL)), .un, .un, .un, .un, .un, .un, .un])
    (j : joinF (S []) [.lst ds0] = some (.fz (.str (S cs)))) (hl : lenF [.str (S cs)] = some (.fz (.int L)))
    (h2 : T n ._law_next [.io (.lst p1), .fz (.int (L + 1))] = .ret (.fz (.int a)) [.io (.lst p2), .fz (.int (L + 1))])
    (h3 : T n ._law_next [.io (.lst p2), .fz (.int 26)] = .ret (.fz (.int f)) [.io (.lst p3), .fz (.int 26)])
    (h4 : T n ._law_next [.io (.lst p3), .fz (.int 3)] = .ret (.fz (.int t)) [.io (.lst p4), .fz (.int 3)])
    (h5 : l__law_calls_1 (T n) [.io (.lst p4), .fz (.int m), .fz (.str (S azL)), .fz (.str (S cs)), .fz (.int a), .fz (.int f), .fz (.int t), .own (.lst []), .un, .un] = .ok .nx [.io (.lst p4), .fz (.int m), .fz (.str (S azL)), .fz (.str (S cs)), .fz (.int a), .fz (.int f), .fz (.int t), .own (.lst ds), .un, .un]) :
    T (n + 1) ._law_calls [.io (.lst p), .fz (.int m)] = .ret (.own (.lst ds)) [.io (.lst p4), .fz (.int m)] := by
  show fnRun 10 (b__law_calls (T n)) _ = _
  unfold b__law_calls
  wp_walk using h1, j, hl, h2, h3, h4, h5
theorem t_calls {n : Nat} (hn : 2 ≤ n) {p : List D} (h : Pl p) (m : Nat) (hm : m ≤ 1000) : ∃ names p', Nms names m ∧ Pl p' ∧
    T n ._law_calls [.io (.lst p), .fz (.int (m : Int))] = .ret (.own (.lst (names.map dStr))) [.io (.lst p'), .fz (.int (m : Int))] := by
  obtain ⟨n, rfl, hk⟩ := up1 hn
  obtain ⟨cs, p1, P1, c6, caz, h1⟩ := c_calls hk h (m : Int)
  obtain ⟨a, p2, a1, P2, h2⟩ := t_nextN hk P1 (base := (cs.length : Int) + 1) (by omega) (by omega)
  obtain ⟨f, p3, f1, P3, h3⟩ := t_nextN hk P2 (base := 26) (by decide) (by decide)
  obtain ⟨t, p4, t1, P4, h4⟩ := t_nextN hk P3 (base := 3) (by decide) (by decide)
  have h5 := l_calls n p4 m hm cs c6 a f t (by omega) (by omega)
  refine ⟨_, p4, ⟨cs, a, f, decide (t = 1), c6, caz, by omega, by omega, rfl⟩, P4, ?_⟩
  have j : joinF (S []) [.lst (cs.map fun c => .str (S [c]))] = some (.fz (.str (S cs))) := by
    have e : (cs.map fun c => D.str (S [c])) = (cs.map fun c => [c]).map dStr := by rw [List.map_map]; rfl
    have := join_l (sep := []) (ls := cs.map fun c => [c]) (by rw [joinT_one]; omega) (by decide)
    rw [e, this, joinT_one]
  exact calls_walk n p p1 p2 p3 p4 _ _ m _ a f t cs h1 j (lenS cs (by omega)) h2 h3 h4 h5

end Sc.Law
end
section
set_option Elab.async false
set_option linter.all false
set_option autoImplicit false
set_option maxRecDepth 100000
set_option maxHeartbeats 2000000
open PySem L2 Sc
namespace Sc.Law
local macro_rules | `(tactic| wp_walk using $ts,*) => `(tactic| simp (config := { decide := false }) (disch := (with_reducible refine Sz.mk ?_; first | assumption | omega | ((try simp only [List.length_append, List.length_cons, List.length_nil, List.length_map, List.length_replicate, O.toD, S_len]); omega))) only [fnRun, seqM, ifS, orT, andT, notT, andM, orM, notM, ifM, testM, viewB, view, M.bind, M.pure, M.stuck, nameM, constM, bltM, viewAll, consA, nilA, retM, opM, negM, chainM, isiM, tyName, strMM, tupM, lstM, freezeAll, freeze, setM, exprM, callM, callF, prep, lend, backM, wbAll, Rt.rv, iosOf, Arg.sl, List.map_cons, List.map_nil, List.length_cons, List.length_nil, Nat.zero_add, Nat.reduceAdd, Nat.reduceSub, Nat.reduceLT, Nat.reduceEqDiff, List.replicate_succ, List.replicate_zero, List.cons_append, List.nil_append, List.getElem?_cons_zero, List.getElem?_cons_succ, List.set_cons_zero, List.set_cons_succ, methM, isObj, fldM, dget, putFM, objAt, putD, slOf, mutM, lstAt, raiseM, skipM, O.toD, leF, ltF, gtF, geF, subF, iiF, if_true, if_false, Bool.false_eq_true, len_l, len_t, len_d, len_scr, len_s,  Bool.not_true, Bool.not_false, decide_true, decide_false, kit_str_str, kit_str_tuple, kit_str_int, kit_str_bool, kit_int_str, kit_int_int, kit_int_bool, kit_int_tuple, kit_bool_int, kit_bool_bool, kit_bool_tuple, kit_bool_str, kit_tuple_tuple, kit_tuple_str, kit_tuple_int, kit_tuple_bool, kit_none_tuple, kit_none_str, kit_none_int, kit_none_bool, kit_list_tuple, kit_list_str, kit_list_int, nameG, tupGn, consG, nilG, Nat.lt_add_one, ixL, ixT, ixSc, ixAz, ixSS, appendF, Option.map_some, Option.map_none, wipeE, restE, forR, lcW, lcF, lcS, forS, forT, wipeS, extendF, yesT, int_i, int_b, putM, dicAt, putLM, rng1M, addF_ll, addF_ii, addF_tt, tupleF, sliceM, intM, dOpt, eqO_i, neO_i, eqO_S, neO_S, eqO_b, list2_l, list2_t, list2_d, inOF, Bool.false_xor, Bool.true_xor, Bool.true_and, Bool.and_true, Bool.false_and, Bool.and_false, Bool.true_or, Bool.false_or, Bool.or_true, Bool.or_false, ifLt, ifLe, at0, at1, at2, at3, ix0, ix1, ix2, ix3, ne_ss, ne_ps, kn_1, kn_2, kn_3, kn_4, kn_5, kn_6, kn_7, S_cps, mk_S, inF_sign, pow18, pow60, pow30, pow12, pow10, sl_tail, add_md, add_dmd, addSS, modZ, fdivZ, mulZR, mulZL, mulZ_l, S_len, $[$ts:term],*])
/-! a number drawn, of up to sixty figures -/
theorem num_walk1 (n : Nat) (p p1 p2 : List D) (w x : Int) (h1 : T n ._law_next [.io (.lst p), .fz (.int 8)] = .ret (.fz (.int w)) [.io (.lst p1), .fz (.int 8)]) (e : decide (w < 6) = true)
    (h2 : T n ._law_next [.io (.lst p1), .fz (.int 9)] = .ret (.fz (.int x)) [.io (.lst p2), .fz (.int 9)]) : T (n + 1) ._law_number [.io (.lst p)] = .ret (.fz (.int (x - 4))) [.io (.lst p2)] := by
  show fnRun 2 (b__law_number (T n)) _ = _
  unfold b__law_number
  wp_walk using h1, e, h2
theorem num_walk2 (n : Nat) (p p1 p2 : List D) (w x : Int) (h1 : T n ._law_next [.io (.lst p), .fz (.int 8)] = .ret (.fz (.int w)) [.io (.lst p1), .fz (.int 8)]) (e : decide (w < 6) = false) (e2 : decide (w = 6) = true)
    (h2 : T n ._law_next [.io (.lst p1), .fz (.int 2001)] = .ret (.fz (.int x)) [.io (.lst p2), .fz (.int 2001)]) : T (n + 1) ._law_number [.io (.lst p)] = .ret (.fz (.int (x - 1000))) [.io (.lst p2)] := by
  show fnRun 2 (b__law_number (T n)) _ = _
  unfold b__law_number
  wp_walk using h1, e, e2, h2
theorem num_walk3 (n : Nat) (p p1 p2 p3 : List D) (w x y B : Int) (hB : powF (.int 10) (.int 60) = some (.fz (.int B))) (h1 : T n ._law_next [.io (.lst p), .fz (.int 8)] = .ret (.fz (.int w)) [.io (.lst p1), .fz (.int 8)]) (e : decide (w < 6) = false) (e2 : decide (w = 6) = false)
    (h2 : T n ._law_next [.io (.lst p1), .fz (.int B)] = .ret (.fz (.int x)) [.io (.lst p2), .fz (.int B)]) (h3 : T n ._law_next [.io (.lst p2), .fz (.int B)] = .ret (.fz (.int y)) [.io (.lst p3), .fz (.int B)]) : T (n + 1) ._law_number [.io (.lst p)] = .ret (.fz (.int (x - y))) [.io (.lst p3)] := by
  show fnRun 2 (b__law_number (T n)) _ = _
  unfold b__law_number
  wp_walk using hB, h1, e, e2, h2, h3
theorem t_num {n : Nat} (hn : 2 ≤ n) {p : List D} (h : Pl p) : ∃ (i : Int) (p' : List D), i.natAbs < 10 ^ 60 ∧ Pl p' ∧ T n ._law_number [.io (.lst p)] = .ret (.fz (.int i)) [.io (.lst p')] := by
  obtain ⟨n, rfl, hk⟩ := up1 hn
  obtain ⟨w, p1, w1, P1, h1⟩ := t_nextN hk h (base := 8) (by decide) (by decide)
  by_cases c1 : w < 6
  · obtain ⟨x, p2, x1, P2, h2⟩ := t_nextN hk P1 (base := 9) (by decide) (by decide)
    exact ⟨_, p2, by omega, P2, num_walk1 n p p1 p2 w x h1 (decide_eq_true (by omega)) h2⟩
  · by_cases c2 : w = 6
    · obtain ⟨x, p2, x1, P2, h2⟩ := t_nextN hk P1 (base := 2001) (by decide) (by decide)
      exact ⟨_, p2, by omega, P2, num_walk2 n p p1 p2 w x h1 (decide_eq_false (by omega)) (decide_eq_true (by omega)) h2⟩
    · obtain ⟨x, p2, x1, P2, h2⟩ := t_nextN hk P1 (base := 10 ^ 60) (by decide) (by decide)
      obtain ⟨y, p3, y1, P3, h3⟩ := t_nextN hk P2 (base := 10 ^ 60) (by decide) (by decide)
      exact ⟨_, p3, by omega, P3, num_walk3 n p p1 p2 p3 w x y _ pow60 h1 (decide_eq_false (by omega)) (decide_eq_false (by omega)) h2 h3⟩

end Sc.Law
end
section
set_option Elab.async false
set_option linter.all false
set_option autoImplicit false
set_option maxRecDepth 100000
set_option maxHeartbeats 2000000
open PySem L2 Sc
namespace Sc.Law
local macro_rules | `(tactic| wp_walk using $ts,*) => `(tactic| simp (config := { decide := false }) (disch := (with_reducible refine Sz.mk ?_; first | assumption | omega | ((try simp only [List.length_append, List.length_cons, List.length_nil, List.length_map, List.length_replicate, O.toD, S_len]); omega))) only [fnRun, seqM, ifS, orT, andT, notT, andM, orM, notM, ifM, testM, viewB, view, M.bind, M.pure, M.stuck, nameM, constM, bltM, viewAll, consA, nilA, retM, opM, negM, chainM, isiM, tyName, strMM, tupM, lstM, freezeAll, freeze, setM, exprM, callM, callF, prep, lend, backM, wbAll, Rt.rv, iosOf, Arg.sl, List.map_cons, List.map_nil, List.length_cons, List.length_nil, Nat.zero_add, Nat.reduceAdd, Nat.reduceSub, Nat.reduceLT, Nat.reduceEqDiff, List.replicate_succ, List.replicate_zero, List.cons_append, List.nil_append, List.getElem?_cons_zero, List.getElem?_cons_succ, List.set_cons_zero, List.set_cons_succ, methM, isObj, fldM, dget, putFM, objAt, putD, slOf, mutM, lstAt, raiseM, skipM, O.toD, leF, ltF, gtF, geF, subF, iiF, if_true, if_false, Bool.false_eq_true, len_l, len_t, len_d, len_scr, len_s,  Bool.not_true, Bool.not_false, decide_true, decide_false, kit_str_str, kit_str_tuple, kit_str_int, kit_str_bool, kit_int_str, kit_int_int, kit_int_bool, kit_int_tuple, kit_bool_int, kit_bool_bool, kit_bool_tuple, kit_bool_str, kit_tuple_tuple, kit_tuple_str, kit_tuple_int, kit_tuple_bool, kit_none_tuple, kit_none_str, kit_none_int, kit_none_bool, kit_list_tuple, kit_list_str, kit_list_int, nameG, tupGn, consG, nilG, Nat.lt_add_one, ixL, ixT, ixSc, ixAz, ixSS, appendF, Option.map_some, Option.map_none, wipeE, restE, forR, lcW, lcF, lcS, forS, forT, wipeS, extendF, yesT, int_i, int_b, putM, dicAt, putLM, rng1M, addF_ll, addF_ii, addF_tt, tupleF, sliceM, intM, dOpt, eqO_i, neO_i, eqO_S, neO_S, eqO_b, list2_l, list2_t, list2_d, inOF, Bool.false_xor, Bool.true_xor, Bool.true_and, Bool.and_true, Bool.false_and, Bool.and_false, Bool.true_or, Bool.false_or, Bool.or_true, Bool.or_false, ifLt, ifLe, at0, at1, at2, at3, ix0, ix1, ix2, ix3, ne_ss, ne_ps, kn_1, kn_2, kn_3, kn_4, kn_5, kn_6, kn_7, S_cps, mk_S, inF_sign, pow18, pow60, pow30, pow12, pow10, sl_tail, add_md, add_dmd, addSS, modZ, fdivZ, mulZR, mulZL, mulZ_l, S_len, $[$ts:term],*])
/-! what names are like -/
def makesB (b : Book) : List Mk0 := b.flatMap (·.2)
structure Bk (b : Book) (F : Nat) : Prop where
  n1 : 1 ≤ b.length
  kw : ∀ k ∈ b, Wd k.1
  m1 : ∀ k ∈ b, 1 ≤ k.2.length
  m6 : ∀ k ∈ b, k.2.length ≤ 6
  mw : ∀ k ∈ b, ∀ m ∈ k.2, Wd m.1
  f4 : ∀ k ∈ b, ∀ m ∈ k.2, m.2.length ≤ F
  fk : ∀ k ∈ b, ∀ m ∈ k.2, ∀ f ∈ m.2, f ∈ numL :: b.map (·.1)
  kn : (numL :: b.map (·.1)).Nodup
  mn : ((makesB b).map (·.1)).Nodup
theorem nmF_at (base : List Nat) (at_ first : Nat) (t : Bool) (k : Nat) (ha : at_ ≤ base.length) : (nmF base at_ first t k)[at_]? = some (97 + (first + 5 * k) % 26) := by
  unfold nmF
  have e : (base.take at_).length = at_ := by simp; omega
  simp only [List.append_assoc]
  rw [List.getElem?_append_right (by omega), e, Nat.sub_self]
  rfl
theorem nmF_len (base : List Nat) (at_ first : Nat) (t : Bool) (k : Nat) (ha : at_ ≤ base.length) : base.length + 1 ≤ (nmF base at_ first t k).length ∧ (nmF base at_ first t k).length ≤ base.length + 2 := by
  unfold nmF
  simp only [List.length_append, List.length_take, List.length_drop, List.length_cons, List.length_nil]
  split <;> simp <;> omega
theorem Nms.wd {names : List (List Nat)} {m : Nat} (h : Nms names m) : ∀ w ∈ names, Wd w := by
  obtain ⟨base, at_, first, t, h1, h2, h3, h4, rfl⟩ := h
  intro w hw
  obtain ⟨k, hk, rfl⟩ := List.mem_map.mp hw
  have hl := nmF_len base at_ first t k h3
  refine ⟨by omega, by omega, fun c hc => ?_⟩
  unfold nmF at hc
  simp only [List.mem_append] at hc
  rcases hc with ((hc | hc) | hc) | hc
  · exact az_mem.mp (h2 c (List.mem_of_mem_take hc))
  · simp at hc; omega
  · exact az_mem.mp (h2 c (List.mem_of_mem_drop hc))
  · split at hc
    · simp at hc; omega
    · simp at hc
theorem Nms.len {names : List (List Nat)} {m : Nat} (h : Nms names m) : names.length = m := by
  obtain ⟨base, at_, first, t, h1, h2, h3, h4, rfl⟩ := h; simp
theorem Nms.nd {names : List (List Nat)} {m : Nat} (h : Nms names m) (hm : m ≤ 26) : names.Nodup := by
  obtain ⟨base, at_, first, t, h1, h2, h3, h4, rfl⟩ := h
  refine List.Pairwise.map _ ?_ (List.Pairwise.and_mem.mp List.nodup_range)
  intro a b ⟨ha, hb, hab⟩ e
  have e1 := nmF_at base at_ first t a h3
  have e2 := nmF_at base at_ first t b h3
  rw [e, e2] at e1
  have ha := List.mem_range.mp ha
  have hb := List.mem_range.mp hb
  simp only [Option.some.injEq] at e1
  omega
def numbL : List Nat := [110, 117, 109, 98]
/-- a kind isn't called num -/
def fixN (w : List Nat) : List Nat := if w = numL then numbL else w
theorem Nms.nonumb {names : List (List Nat)} {m : Nat} (h : Nms names m) (hm : m ≤ 26) (h1 : numL ∈ names) : numbL ∉ names := by
  obtain ⟨base, at_, first, t, hb, h2, h3, h4, rfl⟩ := h
  intro h5
  obtain ⟨a, ha, ea⟩ := List.mem_map.mp h1
  obtain ⟨b, hb2, eb⟩ := List.mem_map.mp h5
  have e1 := nmF_at base at_ first t a h3
  have e2 := nmF_at base at_ first t b h3
  have hl := nmF_len base at_ first t a h3
  rw [ea] at e1 hl
  rw [eb] at e2
  have ha := List.mem_range.mp ha
  have hb2 := List.mem_range.mp hb2
  simp only [show numL.length = 3 from rfl] at hl
  have hat : at_ = 0 ∨ at_ = 1 ∨ at_ = 2 := by omega
  have e3 : numL[at_]? = numbL[at_]? := by rcases hat with rfl | rfl | rfl <;> rfl
  rw [e3, e2] at e1
  simp only [Option.some.injEq] at e1
  have hab : a = b := by omega
  subst hab
  rw [ea] at eb
  revert eb; decide
theorem fix_wd {w : List Nat} (h : Wd w) : Wd (fixN w) := by
  unfold fixN; split
  · exact ⟨by decide, by decide, by decide⟩
  · exact h
theorem fix_ne (w : List Nat) : fixN w ≠ numL := by
  unfold fixN; split
  · decide
  · rename_i h; exact h
theorem Nms.fix {names : List (List Nat)} {m : Nat} (h : Nms names m) (hm : m ≤ 26) : (numL :: names.map fixN).Nodup := by
  rw [List.nodup_cons]
  refine ⟨fun z => ?_, ?_⟩
  · obtain ⟨w, _, e⟩ := List.mem_map.mp z; exact fix_ne w e
  · refine List.Pairwise.map _ ?_ (List.Pairwise.and_mem.mp (h.nd hm))
    intro a b ⟨ha, hb, hab⟩ e
    unfold fixN at e
    split at e
    · rename_i h1
      split at e
      · rename_i h2; exact hab (h1.trans h2.symm)
      · subst h1; exact h.nonumb hm ha (by rw [e]; exact hb)
    · split at e
      · rename_i h2; subst h2; exact h.nonumb hm hb (by rw [← e]; exact ha)
      · exact hab e
theorem Nms.lens {names : List (List Nat)} {m : Nat} (h : Nms names m) : ∃ L, ∀ w ∈ names, L ≤ w.length ∧ w.length ≤ L + 1 := by
  obtain ⟨base, at_, first, t, h1, h2, h3, h4, rfl⟩ := h
  refine ⟨base.length + 1, fun w hw => ?_⟩
  obtain ⟨k, hk, rfl⟩ := List.mem_map.mp hw
  have := nmF_len base at_ first t k h3
  omega
theorem getDrawn {α : Type} {l : List α} {d : Nat} (h : (d : Int) < (l.length : Int)) : ∃ a, a ∈ l ∧ atI l (d : Int) = some a := by
  have hd : d < l.length := by omega
  exact ⟨l[d], List.getElem_mem hd, atN (by simp [hd])⟩

end Sc.Law
end
section
set_option Elab.async false
set_option linter.all false
set_option autoImplicit false
set_option maxRecDepth 100000
set_option maxHeartbeats 2000000
open PySem L2 Sc
namespace Sc.Law
local macro_rules | `(tactic| wp_walk using $ts,*) => `(tactic| simp (config := { decide := false }) (disch := (with_reducible refine Sz.mk ?_; first | assumption | omega | ((try simp only [List.length_append, List.length_cons, List.length_nil, List.length_map, List.length_replicate, O.toD, S_len]); omega))) only [fnRun, seqM, ifS, orT, andT, notT, andM, orM, notM, ifM, testM, viewB, view, M.bind, M.pure, M.stuck, nameM, constM, bltM, viewAll, consA, nilA, retM, opM, negM, chainM, isiM, tyName, strMM, tupM, lstM, freezeAll, freeze, setM, exprM, callM, callF, prep, lend, backM, wbAll, Rt.rv, iosOf, Arg.sl, List.map_cons, List.map_nil, List.length_cons, List.length_nil, Nat.zero_add, Nat.reduceAdd, Nat.reduceSub, Nat.reduceLT, Nat.reduceEqDiff, List.replicate_succ, List.replicate_zero, List.cons_append, List.nil_append, List.getElem?_cons_zero, List.getElem?_cons_succ, List.set_cons_zero, List.set_cons_succ, methM, isObj, fldM, dget, putFM, objAt, putD, slOf, mutM, lstAt, raiseM, skipM, O.toD, leF, ltF, gtF, geF, subF, iiF, if_true, if_false, Bool.false_eq_true, len_l, len_t, len_d, len_scr, len_s,  Bool.not_true, Bool.not_false, decide_true, decide_false, kit_str_str, kit_str_tuple, kit_str_int, kit_str_bool, kit_int_str, kit_int_int, kit_int_bool, kit_int_tuple, kit_bool_int, kit_bool_bool, kit_bool_tuple, kit_bool_str, kit_tuple_tuple, kit_tuple_str, kit_tuple_int, kit_tuple_bool, kit_none_tuple, kit_none_str, kit_none_int, kit_none_bool, kit_list_tuple, kit_list_str, kit_list_int, nameG, tupGn, consG, nilG, Nat.lt_add_one, ixL, ixT, ixSc, ixAz, ixSS, appendF, Option.map_some, Option.map_none, wipeE, restE, forR, lcW, lcF, lcS, forS, forT, wipeS, extendF, yesT, int_i, int_b, putM, dicAt, putLM, rng1M, addF_ll, addF_ii, addF_tt, tupleF, sliceM, intM, dOpt, eqO_i, neO_i, eqO_S, neO_S, eqO_b, list2_l, list2_t, list2_d, inOF, Bool.false_xor, Bool.true_xor, Bool.true_and, Bool.and_true, Bool.false_and, Bool.and_false, Bool.true_or, Bool.false_or, Bool.or_true, Bool.or_false, ifLt, ifLe, at0, at1, at2, at3, ix0, ix1, ix2, ix3, ne_ss, ne_ps, kn_1, kn_2, kn_3, kn_4, kn_5, kn_6, kn_7, S_cps, mk_S, inF_sign, pow18, pow60, pow30, pow12, pow10, sl_tail, add_md, add_dmd, addSS, modZ, fdivZ, mulZR, mulZL, mulZ_l, S_len, $[$ts:term],*])
/-! a book's plain makes by rounds, the makes that come -/
abbrev Pln := List (List Nat × Mk0)
def keysP (pl : Pln) : List (List Nat) := pl.map (·.1)
def dPl (pl : Pln) : D := .dic ((keysP pl).map S) (pl.map fun x => dMake x.2)
def dW (b : Book) (pl : Pln) : D := .tup [dBook b, dPl pl]
structure Wp (b : Book) (pl : Pln) : Prop where
  nd : (keysP pl).Nodup
  at_ : ∀ (i : Nat) (x : List Nat × Mk0), pl[i]? = some x → x.2 ∈ allMk b x.1 ∧ x.1 ∈ b.map (·.1) ∧ ∀ f ∈ x.2.2, f ∈ numL :: keysP (pl.take i)
theorem Wp.nil (b : Book) : Wp b [] := ⟨List.nodup_nil, fun i x h => by simp at h⟩
theorem Wp.snoc {b : Book} {pl : Pln} (W : Wp b pl) {k : List Nat} {m : Mk0} (hk : k ∉ keysP pl) (hm : m ∈ allMk b k) (hb : k ∈ b.map (·.1)) (hf : ∀ f ∈ m.2, f ∈ numL :: keysP pl) : Wp b (pl ++ [(k, m)]) where
  nd := by
    unfold keysP at *
    rw [List.map_append, List.nodup_append]
    refine ⟨W.nd, by simp, ?_⟩
    intro a ha c hc z
    simp at hc; subst hc; subst z; exact hk ha
  at_ i x h := by
    by_cases hi : i < pl.length
    · rw [List.getElem?_append_left hi] at h
      obtain ⟨h1, h2, h3⟩ := W.at_ i x h
      refine ⟨h1, h2, ?_⟩
      rw [List.take_append_of_le_length (by omega)]; exact h3
    · rw [List.getElem?_append_right (by omega)] at h
      have e : i = pl.length := by
        have := (List.getElem?_eq_some_iff.mp h).1
        simp at this; omega
      subst e
      simp at h; subst h
      refine ⟨hm, hb, ?_⟩
      rw [List.take_left']
      · exact hf
      · rfl
theorem nd_le {α : Type} [DecidableEq α] : ∀ (l m : List α), l.Nodup → (∀ x ∈ l, x ∈ m) → l.length ≤ m.length
  | [], _, _, _ => by simp
  | a :: l, m, hn, hs => by
    rw [List.nodup_cons] at hn
    have ha := hs a (by simp)
    have ih := nd_le l (m.erase a) hn.2 fun x hx => (List.mem_erase_of_ne (fun z => hn.1 (by rw [← z]; exact hx))).mpr (hs x (by simp [hx]))
    rw [List.length_erase_of_mem ha] at ih
    have := List.length_pos_of_mem ha
    simp only [List.length_cons]; omega
theorem Wp.len {b : Book} {pl : Pln} (W : Wp b pl) : pl.length ≤ b.length := by
  have h1 : keysP pl ⊆ b.map (·.1) := fun k hk => by
    obtain ⟨x, hx, rfl⟩ := List.mem_map.mp hk
    obtain ⟨i, hi⟩ := List.getElem?_of_mem hx
    exact (W.at_ i x hi).2.1
  have := nd_le _ _ W.nd h1
  simpa [keysP] using this
theorem keys_nd {ls : List (List Nat)} (h : ls.Nodup) : (ls.map S).Nodup := List.Pairwise.map S (fun a b z q => z (S_inj.mp q)) h
theorem allMk_of {b : Book} (hn : (b.map (·.1)).Nodup) {k : Kd} (hk : k ∈ b) : allMk b k.1 = k.2 := by
  unfold allMk
  induction b with
  | nil => simp at hk
  | cons x b ih =>
    simp only [List.map_cons, List.nodup_cons] at hn
    rw [List.find?_cons]
    rcases List.mem_cons.mp hk with rfl | z
    · simp
    · have hne : ¬ x.1 = k.1 := fun q => hn.1 (by rw [q]; exact List.mem_map.mpr ⟨k, z, rfl⟩)
      rw [decide_eq_false hne]
      exact ih hn.2 z
theorem rounds_c (n : Nat) (a0 a1 s2 s4 s5 : Sl) (had : List (List Nat)) (m : Mk0) (hm : m.2.length ≤ 1000) :
    c__law_rounds_1 (T n) [a0, a1, s2, .own (.lst (had.map dStr)), s4, s5, .fz (dMake m), .un] = .ok (.own (.lst (m.2.map fun f => .bl (decide (f ∈ had))))) [a0, a1, s2, .own (.lst (had.map dStr)), s4, s5, .fz (dMake m), .un] := by
  unfold c__law_rounds_1 dMake
  refine lcM_mapW dStr (fun f => .bl (decide (f ∈ had))) m.2 (e1 := [a0, a1, s2, .own (.lst (had.map dStr)), s4, s5, .fz (.tup [.str (S m.1), .tup (m.2.map dStr)]), .un]) ?_ (by omega) fun f _ => ?_
  · unfold iterM; wp_walk using at1
  · have := in_lS f had
    unfold dStr
    generalize (had.map fun l => D.str (S l)) = hd at *
    wp_walk using this
theorem all_mem (fs had : List (List Nat)) : allF [.lst (fs.map fun f => .bl (decide (f ∈ had)))] = some (.fz (.bl (decide (∀ f ∈ fs, f ∈ had)))) := by
  have h : allF [.lst (fs.map fun f => .bl (decide (f ∈ had)))] = some (.fz (.bl ((fs.map fun f => decide (f ∈ had)).all fun b => b))) := by
    show (boolsOf (fs.map fun f => D.bl (decide (f ∈ had)))).map _ = _
    rw [boolsB]; rfl
  rw [h]
  congr 3
  rw [List.all_map, Bool.eq_iff_iff]
  simp
/-- the slots of the rounds -/
def rE (b : Book) (pl : Pln) (s2 : Sl) (had : List (List Nat)) (s4 s5 : Sl) : Ev := [.fz (dBook b), .own (.dic ((keysP pl).map S) (pl.map fun x => dMake x.2)), s2, .own (.lst (had.map dStr)), s4, s5, .un, .un]
theorem round_make (n : Nat) (a0 s2 : Sl) (s5 : D) (pl : Pln) (had : List (List Nat)) (k : List Nat) (m : Mk0) (hm : m.2.length ≤ 1000) (nd : (keysP pl).Nodup) (hl : pl.length ≤ 1000) :
    forS (nameG 6) (wipeS [6] (ifS (andT (testM (opM (inOF true) (nameM 4) (nameM 1))) (testM (bltM allF (consA (c__law_rounds_1 (T n)) nilA)))) (putM 1 (nameM 6) (nameM 4)) skipM)) (dMake m)
      [a0, .own (.dic ((keysP pl).map S) (pl.map fun x => dMake x.2)), s2, .own (.lst (had.map dStr)), .fz (.str (S k)), .fz s5, .un, .un] =
    some [a0, .own (.dic ((keysP (if k ∉ keysP pl ∧ ∀ f ∈ m.2, f ∈ had then pl ++ [(k, m)] else pl)).map S) ((if k ∉ keysP pl ∧ ∀ f ∈ m.2, f ∈ had then pl ++ [(k, m)] else pl).map fun x => dMake x.2)), s2, .own (.lst (had.map dStr)), .fz (.str (S k)), .fz s5, .un, .un] := by
  have h1 := in_dS k (keysP pl) (pl.map fun x => dMake x.2)
  have h2 := rounds_c n a0 (.own (.dic ((keysP pl).map S) (pl.map fun x => dMake x.2))) s2 (.fz (.str (S k))) (.fz s5) had m hm
  have h3 := all_mem m.2 had
  by_cases hk : k ∈ keysP pl
  · rw [if_neg (fun z => z.1 hk)]
    rw [decide_eq_true hk] at h1
    generalize (keysP pl).map S = ks at *
    generalize (pl.map fun x => dMake x.2) = ds at *
    wp_walk using h1, List.length_nil, Bool.true_xor
  · rw [decide_eq_false hk] at h1
    by_cases hf : ∀ f ∈ m.2, f ∈ had
    · rw [if_pos ⟨hk, hf⟩]
      rw [decide_eq_true hf] at h3
      have hp := putDk_new (f := S k) (d := dMake m) (ks := (keysP pl).map S) (ds := pl.map fun x => dMake x.2) (fun z => hk (mem_S.mp z)) (by simp [keysP])
      have hz : (((keysP pl).map S).length < sizeLine ∧ ((keysP pl).map S).Nodup) = True := eq_true ⟨by simp [keysP]; unfold sizeLine; omega, keys_nd nd⟩
      have e1 : (keysP (pl ++ [(k, m)])).map S = (keysP pl).map S ++ [S k] := by simp [keysP]
      have e2 : ((pl ++ [(k, m)]).map fun x => dMake x.2) = (pl.map fun x => dMake x.2) ++ [dMake m] := by simp
      rw [e1, e2]
      generalize (keysP pl).map S = ks at *
      generalize (pl.map fun x => dMake x.2) = ds at *
      wp_walk using h1, h2, h3, hp, hz, putDM, List.length_nil
    · rw [if_neg (fun z => hf z.2)]
      rw [decide_eq_false hf] at h3
      generalize (keysP pl).map S = ks at *
      generalize (pl.map fun x => dMake x.2) = ds at *
      wp_walk using h1, h2, h3, List.length_nil
/-- what holds between two turns -/
def Pr (b : Book) (pl0 : Pln) (s2 : Sl) (s4 s5 : Sl) (e : Ev) : Prop := ∃ pl, Wp b pl ∧ (∃ r, pl = pl0 ++ r) ∧ e = rE b pl s2 (keysP pl0 ++ [numL]) s4 s5
theorem round_kind (n : Nat) (b : Book) (hb : b.length ≤ 100) (hn : (b.map (·.1)).Nodup) (pl0 : Pln) (s2 : Sl) (k : Kd) (hk : k ∈ b) (hm : ∀ m ∈ k.2, m.2.length ≤ 100) {e : Ev} (h : Pr b pl0 s2 (.fz (.str (S k.1))) (.fz (.tup (k.2.map dMake))) e) :
    ∃ e', l__law_rounds_1 (T n) e = .ok .nx e' ∧ Pr b pl0 s2 (.fz (.str (S k.1))) (.fz (.tup (k.2.map dMake))) e' := by
  unfold l__law_rounds_1
  obtain ⟨pl, W, hr, rfl⟩ := h
  obtain ⟨e', q, h⟩ := forM_all (g := nameG 6) (b := (wipeS [6] (ifS (andT (testM (opM (inOF true) (nameM 4) (nameM 1))) (testM (bltM allF (consA (c__law_rounds_1 (T n)) nilA)))) (putM 1 (nameM 6) (nameM 4)) skipM))) (I := iterM (nameM 5)) dMake (fun _ e => Pr b pl0 s2 (.fz (.str (S k.1))) (.fz (.tup (k.2.map dMake))) e) k.2 (rE b pl s2 (keysP pl0 ++ [numL]) (.fz (.str (S k.1))) (.fz (.tup (k.2.map dMake)))) (e1 := rE b pl s2 (keysP pl0 ++ [numL]) (.fz (.str (S k.1))) (.fz (.tup (k.2.map dMake)))) (by exact rfl) ⟨pl, W, hr, rfl⟩ (fun pre m post e hx ⟨pl, W, ⟨r, hr⟩, he⟩ => by
    subst he
    have hmem : m ∈ k.2 := by rw [hx]; simp
    have wl := W.len
    refine ⟨_, round_make n (.fz (dBook b)) s2 (.tup (k.2.map dMake)) pl (keysP pl0 ++ [numL]) k.1 m (by have := hm m hmem; omega) W.nd (by omega), _, ?_, ?_, rfl⟩
    · split
      · rename_i hc
        refine W.snoc hc.1 (by rw [allMk_of hn hk]; exact hmem) (List.mem_map.mpr ⟨k, hk, rfl⟩) fun f hf => ?_
        have := hc.2 f hf
        simp only [List.mem_append, List.mem_singleton] at this
        rw [hr]
        simp only [List.mem_cons, keysP, List.map_append, List.mem_append]
        rcases this with z | z
        · exact .inr (.inl z)
        · exact .inl z
      · exact W
    · split
      · exact ⟨r ++ [(k.1, m)], by rw [hr, List.append_assoc]⟩
      · exact ⟨r, hr⟩)
  exact ⟨e', q, h⟩
theorem round_walk (n : Nat) (a0 a1 s2 s3 : Sl) (a1' : Sl) (x y : D) (s4 s5 : Sl)
    (h : l__law_rounds_1 (T n) [a0, a1, s2, s3, .fz x, .fz y, .un, .un] = .ok .nx [a0, a1', s2, s3, .fz x, .fz y, .un, .un]) :
    forS (tupGn 2 (consG (nameG 4) (consG (nameG 5) nilG))) (wipeS [4, 5, 6] (wipeS [6] (l__law_rounds_1 (T n)))) (.tup [x, y]) [a0, a1, s2, s3, s4, s5, .un, .un] = some [a0, a1', s2, s3, .un, .un, .un, .un] := by
  wp_walk using h, List.length_nil
theorem round_book (n : Nat) (b : Book) (hb : b.length ≤ 100) (hn : (b.map (·.1)).Nodup) (hm : ∀ k ∈ b, ∀ m ∈ k.2, m.2.length ≤ 100) (pl0 : Pln) (W0 : Wp b pl0) (s2 : Sl) :
    ∃ pl, Wp b pl ∧ l__law_rounds_2 (T n) (rE b pl0 s2 (keysP pl0 ++ [numL]) .un .un) = .ok .nx (rE b pl s2 (keysP pl0 ++ [numL]) .un .un) := by
  unfold l__law_rounds_2
  obtain ⟨e', q, pl, W, hr, rfl⟩ := forM_all (g := tupGn 2 (consG (nameG 4) (consG (nameG 5) nilG))) (b := (wipeS [4, 5, 6] (wipeS [6] (l__law_rounds_1 (T n))))) (I := iterM (nameM 0)) dKind (fun _ e => Pr b pl0 s2 .un .un e) b (rE b pl0 s2 (keysP pl0 ++ [numL]) .un .un) (e1 := rE b pl0 s2 (keysP pl0 ++ [numL]) .un .un) (by exact rfl) ⟨pl0, W0, ⟨[], by simp⟩, rfl⟩ (fun pre k post e hx ⟨pl, W, hr, he⟩ => by
    subst he
    have hk : k ∈ b := by rw [hx]; simp
    obtain ⟨e1, h1, pl2, W2, hr2, rfl⟩ := round_kind n b hb hn pl0 s2 k hk (hm k hk) ⟨pl, W, hr, rfl⟩
    exact ⟨_, round_walk n _ _ _ _ _ _ _ _ _ h1, pl2, W2, hr2, rfl⟩)
  exact ⟨pl, W, q⟩
theorem keys_add (pl : Pln) : ((keysP pl).map S).map D.str ++ [D.str (S numL)] = (keysP pl ++ [numL]).map dStr := by
  simp [dStr]
theorem turn_walk (n : Nat) (a0 : Sl) (ks : List Str) (ds had : List D) (a1' : Sl) (k : D) (s2 s3 s3' : Sl) (hk : ks.map D.str ++ [D.str (S numL)] = had) (hl : ks.length ≤ 1000)
    (h : l__law_rounds_2 (T n) [a0, .own (.dic ks ds), .fz k, .own (.lst had), .un, .un, .un, .un] = .ok .nx [a0, a1', .fz k, s3', .un, .un, .un, .un]) :
    forS (nameG 2) (wipeS [2, 3, 4, 5, 6] (seqM (setM 3 (opM addF (bltM listF2 (consA (nameM 1) nilA)) (lstM (consA (constM (.str (S numL))) nilA))))
    (wipeS [4, 5, 6] (l__law_rounds_2 (T n))))) k [a0, .own (.dic ks ds), s2, s3, .un, .un, .un, .un] = some [a0, a1', .un, .un, .un, .un, .un, .un] := by
  wp_walk using h, hk, List.length_nil
theorem rounds_walk (n : Nat) (bb : D) (ks : List Str) (ds : List D) (h3 : l__law_rounds_3 (T n) [.fz bb, .own (.dic [] []), .un, .un, .un, .un, .un, .un] = .ok .nx [.fz bb, .own (.dic ks ds), .un, .un, .un, .un, .un, .un]) : T (n + 1) ._law_rounds [.fz bb] = .ret (.own (.dic ks ds)) [.fz bb] := by
  show fnRun 8 (b__law_rounds (T n)) _ = _
  unfold b__law_rounds
  wp_walk using h3, dic0M
theorem t_rounds {n : Nat} (hn : 1 ≤ n) {b : Book} (hb : b.length ≤ 100) (hnd : (b.map (·.1)).Nodup) (hm : ∀ k ∈ b, ∀ m ∈ k.2, m.2.length ≤ 100) : ∃ pl, Wp b pl ∧ T n ._law_rounds [.fz (dBook b)] = .ret (.own (.dic ((keysP pl).map S) (pl.map fun x => dMake x.2))) [.fz (dBook b)] := by
  obtain ⟨n, rfl, _⟩ := up1 hn
  have h3 : ∃ pl, Wp b pl ∧ l__law_rounds_3 (T n) [.fz (dBook b), .own (.dic [] []), .un, .un, .un, .un, .un, .un] = .ok .nx [.fz (dBook b), .own (.dic ((keysP pl).map S) (pl.map fun x => dMake x.2)), .un, .un, .un, .un, .un, .un] := by
    unfold l__law_rounds_3
    have hG : consA (bltM lenF (consA (nameM 0) nilA)) nilA [.fz (dBook b), .own (.dic [] []), .un, .un, .un, .un, .un, .un] = .ok [.fz (.int (b.length : Int))] [.fz (dBook b), .own (.dic [] []), .un, .un, .un, .un, .un, .un] := by
      unfold dBook
      wp_walk using List.length_map
    obtain ⟨e', q, pl, W, rfl⟩ := forM_idx (g := nameG 2) (b := (wipeS [2, 3, 4, 5, 6] (seqM (setM 3 (opM addF (bltM listF2 (consA (nameM 1) nilA)) (lstM (consA (constM (.str (S numL))) nilA))))
      (wipeS [4, 5, 6] (l__law_rounds_2 (T n)))))) (m := b.length) (fun _ e => ∃ pl, Wp b pl ∧ e = [.fz (dBook b), .own (.dic ((keysP pl).map S) (pl.map fun x => dMake x.2)), .un, .un, .un, .un, .un, .un]) _ (rng1_of (by omega) hG) ⟨[], Wp.nil b, rfl⟩ (fun k e hk ⟨pl, W, he⟩ => by
        subst he
        obtain ⟨pl2, W2, h⟩ := round_book n b hb hnd hm pl W (.fz (.int (k : Int)))
        have := W.len
        exact ⟨_, turn_walk n _ _ _ _ _ _ .un .un _ (keys_add pl) (by simp [keysP]; omega) h, pl2, W2, rfl⟩)
    exact ⟨pl, W, q⟩
  obtain ⟨pl, W, h3⟩ := h3
  refine ⟨pl, W, ?_⟩
  exact rounds_walk n _ _ _ h3
/-! the makes of a kind, those that come -/
theorem t_lall {n : Nat} (hn : 1 ≤ n) (b : Book) (w : D) (k : List Nat) : T n ._law_all_makes [.fz (.tup [dBook b, w]), .fz (.str (S k))] = .ret (.own (.lst ((allMk b k).map dMake))) [.fz (.tup [dBook b, w]), .fz (.str (S k))] := by
  obtain ⟨n, rfl, hk⟩ := up1 hn
  show fnRun 4 (b__law_all_makes (T n)) _ = _
  unfold b__law_all_makes
  have h : l__law_all_makes_1 (T n) [.fz (.tup [dBook b, w]), .fz (.str (S k)), .un, .un] = forR [.fz (.tup [dBook b, w]), .fz (.str (S k)), .un, .un] (fun x => .own (.lst (x.2.map dMake))) (fun x => [.fz (.tup [dBook b, w]), .fz (.str (S k)), .fz (.str (S x.1)), .fz (.tup (x.2.map dMake))]) (b.find? (fun x => decide (x.1 = k))) := by
    unfold l__law_all_makes_1
    refine forM_find dKind _ _ _ _ b (by unfold iterM; wp_walk using at0; rfl) (fun x _ hx => ?_) fun x _ hx => ?_
    · unfold dKind
      wp_walk using hx
    · unfold dKind
      wp_walk using hx
  unfold allMk
  cases q : b.find? (fun x => decide (x.1 = k)) with
  | none =>
    rw [q] at h
    wp_walk using h, List.length_nil
  | some x =>
    rw [q] at h
    wp_walk using h
def aliveL (b : Book) (pl : Pln) (k : List Nat) : List Mk0 := (allMk b k).filter fun m => decide (∀ f ∈ m.2, f = numL ∨ f ∈ keysP pl)
theorem alive_c (n : Nat) (b : Book) (pl : Pln) (s1 s2 : Sl) (m : Mk0) (hm : m.2.length ≤ 1000) :
    c__law_alive_1 (T n) [.fz (dW b pl), s1, s2, .fz (dMake m), .un] = .ok (.own (.lst (m.2.map fun f => .bl (decide (f = numL) || decide (f ∈ keysP pl))))) [.fz (dW b pl), s1, s2, .fz (dMake m), .un] := by
  unfold c__law_alive_1 dMake
  refine lcM_mapW dStr (fun f => .bl (decide (f = numL) || decide (f ∈ keysP pl))) m.2 (e1 := [.fz (dW b pl), s1, s2, .fz (.tup [.str (S m.1), .tup (m.2.map dStr)]), .un]) ?_ (by omega) fun f _ => ?_
  · unfold iterM; wp_walk using at1
  · have := in_dS f (keysP pl) (pl.map fun x => dMake x.2)
    unfold dW dStr dPl
    generalize (keysP pl).map S = ks at *
    generalize (pl.map fun x => dMake x.2) = ds at *
    generalize dBook b = bb
    cases h : decide (f = numL) with
    | true => wp_walk using h
    | false => wp_walk using h, this
theorem t_alive {n : Nat} (hn : 2 ≤ n) (b : Book) (pl : Pln) (k : List Nat) (hl : (allMk b k).length ≤ 1000) (hm : ∀ m ∈ allMk b k, m.2.length ≤ 1000) : T n ._law_alive [.fz (dW b pl), .fz (.str (S k))] = .ret (.own (.lst ((aliveL b pl k).map dMake))) [.fz (dW b pl), .fz (.str (S k))] := by
  obtain ⟨n, rfl, hk⟩ := up1 hn
  have h1 := t_lall (n := n) (by omega) b (dPl pl) k
  have h2 : l__law_alive_1 (T n) [.fz (dW b pl), .fz (.str (S k)), .own (.lst []), .un, .un] = .ok .nx [.fz (dW b pl), .fz (.str (S k)), .own (.lst ((aliveL b pl k).map dMake)), .un, .un] := by
    unfold l__law_alive_1
    obtain ⟨e', q, rfl⟩ := forM_all (g := nameG 3) (b := (wipeS [3] (ifS (testM (bltM allF (consA (c__law_alive_1 (T n)) nilA))) (exprM (mutM appendF 2 (consA (nameM 3) nilA))) skipM))) (I := iterM (callM [false, false] (T n ._law_all_makes) (consA (nameM 0) (consA (nameM 1) nilA)))) dMake
      (fun pre e => e = [.fz (dW b pl), .fz (.str (S k)), .own (.lst ((pre.filter fun m => decide (∀ f ∈ m.2, f = numL ∨ f ∈ keysP pl)).map dMake)), .un, .un]) (allMk b k) [.fz (dW b pl), .fz (.str (S k)), .own (.lst []), .un, .un] (e1 := [.fz (dW b pl), .fz (.str (S k)), .own (.lst []), .un, .un])
      (by unfold iterM dW at *; wp_walk using h1) rfl (fun pre m post e hx he => by
        subst he
        have hmm : m ∈ allMk b k := by rw [hx]; simp
        have hpl : pre.length ≤ 1000 := by have := congrArg List.length hx; simp at this; omega
        have hc := alive_c n b pl (.fz (.str (S k))) (.own (.lst ((pre.filter fun m => decide (∀ f ∈ m.2, f = numL ∨ f ∈ keysP pl)).map dMake))) m (hm m hmm)
        have ha : allF [.lst (m.2.map fun f => .bl (decide (f = numL) || decide (f ∈ keysP pl)))] = some (.fz (.bl (decide (∀ f ∈ m.2, f = numL ∨ f ∈ keysP pl)))) := by
          show (boolsOf (m.2.map fun f => D.bl (decide (f = numL) || decide (f ∈ keysP pl)))).map _ = _
          rw [boolsB]
          show some (Rv.fz (.bl ((m.2.map fun f => decide (f = numL) || decide (f ∈ keysP pl)).all fun b => b))) = _
          congr 3
          rw [List.all_map, Bool.eq_iff_iff]
          simp
        have hz : ((pre.filter fun m => decide (∀ f ∈ m.2, f = numL ∨ f ∈ keysP pl)).map dMake).length ≤ 1000 := by
          rw [List.length_map]
          exact Nat.le_trans (List.length_filter_le _ _) hpl
        generalize hD : ((pre.filter fun m => decide (∀ f ∈ m.2, f = numL ∨ f ∈ keysP pl)).map dMake) = ds at *
        by_cases hf : ∀ f ∈ m.2, f = numL ∨ f ∈ keysP pl
        · refine ⟨[.fz (dW b pl), .fz (.str (S k)), .own (.lst (ds ++ [dMake m])), .un, .un], ?_, ?_⟩
          · rw [decide_eq_true hf] at ha
            wp_walk using hc, ha
          · rw [← hD, List.filter_append, List.map_append, List.filter_cons, if_pos (decide_eq_true hf)]; rfl
        · refine ⟨[.fz (dW b pl), .fz (.str (S k)), .own (.lst ds), .un, .un], ?_, ?_⟩
          · rw [decide_eq_false hf] at ha
            wp_walk using hc, ha
          · rw [← hD, List.filter_append, List.map_append, List.filter_cons, if_neg (by simpa using hf)]; simp)
    exact q
  show fnRun 5 (b__law_alive (T n)) _ = _
  unfold b__law_alive
  wp_walk using h2, List.length_nil

end Sc.Law
end
section
set_option Elab.async false
set_option linter.all false
set_option autoImplicit false
set_option maxRecDepth 100000
set_option maxHeartbeats 2000000
open PySem L2 Sc
namespace Sc.Law
local macro_rules | `(tactic| wp_walk using $ts,*) => `(tactic| simp (config := { decide := false }) (disch := (with_reducible refine Sz.mk ?_; first | assumption | omega | ((try simp only [List.length_append, List.length_cons, List.length_nil, List.length_map, List.length_replicate, O.toD, S_len]); omega))) only [fnRun, seqM, ifS, orT, andT, notT, andM, orM, notM, ifM, testM, viewB, view, M.bind, M.pure, M.stuck, nameM, constM, bltM, viewAll, consA, nilA, retM, opM, negM, chainM, isiM, tyName, strMM, tupM, lstM, freezeAll, freeze, setM, exprM, callM, callF, prep, lend, backM, wbAll, Rt.rv, iosOf, Arg.sl, List.map_cons, List.map_nil, List.length_cons, List.length_nil, Nat.zero_add, Nat.reduceAdd, Nat.reduceSub, Nat.reduceLT, Nat.reduceEqDiff, List.replicate_succ, List.replicate_zero, List.cons_append, List.nil_append, List.getElem?_cons_zero, List.getElem?_cons_succ, List.set_cons_zero, List.set_cons_succ, methM, isObj, fldM, dget, putFM, objAt, putD, slOf, mutM, lstAt, raiseM, skipM, O.toD, leF, ltF, gtF, geF, subF, iiF, if_true, if_false, Bool.false_eq_true, len_l, len_t, len_d, len_scr, len_s,  Bool.not_true, Bool.not_false, decide_true, decide_false, kit_str_str, kit_str_tuple, kit_str_int, kit_str_bool, kit_int_str, kit_int_int, kit_int_bool, kit_int_tuple, kit_bool_int, kit_bool_bool, kit_bool_tuple, kit_bool_str, kit_tuple_tuple, kit_tuple_str, kit_tuple_int, kit_tuple_bool, kit_none_tuple, kit_none_str, kit_none_int, kit_none_bool, kit_list_tuple, kit_list_str, kit_list_int, nameG, tupGn, consG, nilG, Nat.lt_add_one, ixL, ixT, ixSc, ixAz, ixSS, appendF, Option.map_some, Option.map_none, wipeE, restE, forR, lcW, lcF, lcS, forS, forT, wipeS, extendF, yesT, int_i, int_b, putM, dicAt, putLM, rng1M, addF_ll, addF_ii, addF_tt, tupleF, sliceM, intM, dOpt, eqO_i, neO_i, eqO_S, neO_S, eqO_b, list2_l, list2_t, list2_d, inOF, Bool.false_xor, Bool.true_xor, Bool.true_and, Bool.and_true, Bool.false_and, Bool.and_false, Bool.true_or, Bool.false_or, Bool.or_true, Bool.or_false, ifLt, ifLe, at0, at1, at2, at3, ix0, ix1, ix2, ix3, ne_ss, ne_ps, kn_1, kn_2, kn_3, kn_4, kn_5, kn_6, kn_7, S_cps, mk_S, inF_sign, pow18, pow60, pow30, pow12, pow10, sl_tail, add_md, add_dmd, addSS, modZ, fdivZ, mulZR, mulZL, mulZ_l, S_len, $[$ts:term],*])
/-! a value drawn -/
theorem item_num (n : Nat) (w : D) (p p' : List D) (d i : Int) (h : T n ._law_number [.io (.lst p)] = .ret (.fz (.int i)) [.io (.lst p')]) :
    T (n + 1) ._law_item [.fz w, .fz (.str (S numL)), .io (.lst p), .fz (.int d)] = .ret (.fz (.int i)) [.fz w, .fz (.str (S numL)), .io (.lst p'), .fz (.int d)] := by
  show fnRun 7 (b__law_item (T n)) _ = _
  unfold b__law_item
  wp_walk using h, decide_true
theorem item_walk1 (n : Nat) (bb w1 : D) (k nm : List Nat) (p p1 p2 : List D) (d j : Int) (ms fs : List D) (m0 : D) (vs : List D) (e0 : decide (k = numL) = false) (e1 : decide (0 < d) = true)
    (hx : ixF w1 (.str (S k)) = some (.fz m0))
    (ha : T n ._law_alive [.fz (.tup [bb, w1]), .fz (.str (S k))] = .ret (.own (.lst ms)) [.fz (.tup [bb, w1]), .fz (.str (S k))])
    (hj : T n ._law_next [.io (.lst p), .fz (.int (ms.length : Int))] = .ret (.fz (.int j)) [.io (.lst p1), .fz (.int (ms.length : Int))])
    (hm : atI ms j = some (.tup [.str (S nm), .tup fs]))
    (hc : c__law_item_1 (T n) [.fz (.tup [bb, w1]), .fz (.str (S k)), .io (.lst p1), .fz (.int d), .own (.lst ms), .fz (.tup [.str (S nm), .tup fs]), .un] = .ok (.own (.lst vs)) [.fz (.tup [bb, w1]), .fz (.str (S k)), .io (.lst p2), .fz (.int d), .own (.lst ms), .fz (.tup [.str (S nm), .tup fs]), .un]) (hl : vs.length ≤ 1000) :
    T (n + 1) ._law_item [.fz (.tup [bb, w1]), .fz (.str (S k)), .io (.lst p), .fz (.int d)] = .ret (.fz (.tup (.str (S nm) :: vs))) [.fz (.tup [bb, w1]), .fz (.str (S k)), .io (.lst p2), .fz (.int d)] := by
  show fnRun 7 (b__law_item (T n)) _ = _
  unfold b__law_item
  wp_walk using e0, e1, hx, ha, hj, hm, hc, List.length_nil
theorem item_walk0 (n : Nat) (bb w1 : D) (k nm : List Nat) (p p1 p2 : List D) (d j : Int) (fs : List D) (vs : List D) (e0 : decide (k = numL) = false) (e1 : decide (0 < d) = false)
    (hx : ixF w1 (.str (S k)) = some (.fz (.tup [.str (S nm), .tup fs])))
    (hj : T n ._law_next [.io (.lst p), .fz (.int 1)] = .ret (.fz (.int 0)) [.io (.lst p1), .fz (.int 1)])
    (hc : c__law_item_1 (T n) [.fz (.tup [bb, w1]), .fz (.str (S k)), .io (.lst p1), .fz (.int d), .own (.lst [.tup [.str (S nm), .tup fs]]), .fz (.tup [.str (S nm), .tup fs]), .un] = .ok (.own (.lst vs)) [.fz (.tup [bb, w1]), .fz (.str (S k)), .io (.lst p2), .fz (.int d), .own (.lst [.tup [.str (S nm), .tup fs]]), .fz (.tup [.str (S nm), .tup fs]), .un]) (hl : vs.length ≤ 1000) :
    T (n + 1) ._law_item [.fz (.tup [bb, w1]), .fz (.str (S k)), .io (.lst p), .fz (.int d)] = .ret (.fz (.tup (.str (S nm) :: vs))) [.fz (.tup [bb, w1]), .fz (.str (S k)), .io (.lst p2), .fz (.int d)] := by
  have ec : (((0 + 1 : Nat)) : Int) = 1 := rfl
  show fnRun 7 (b__law_item (T n)) _ = _
  unfold b__law_item
  wp_walk using e0, e1, hx, hj, hc, List.length_nil, show (((1 : Nat)) : Int) = 1 from rfl
theorem item_c_walk (n : Nat) (w : D) (k f : List Nat) (p p' : List D) (d d1 : Int) (s4 s5 : Sl) (v : D) (ed : d - 1 = d1)
    (h : T n ._law_item [.fz w, .fz (.str (S f)), .io (.lst p), .fz (.int d1)] = .ret (.fz v) [.fz w, .fz (.str (S f)), .io (.lst p'), .fz (.int d1)]) :
    lcW [6] (nameG 6) yesT (callM [false, false, true, false] (T n ._law_item) (consA (nameM 0) (consA (nameM 6) (consA (nameM 2) (consA (opM subF (nameM 3) (constM (.int 1))) nilA))))) (.str (S f)) [.fz w, .fz (.str (S k)), .io (.lst p), .fz (.int d), s4, s5, .un] = some (v, [.fz w, .fz (.str (S k)), .io (.lst p'), .fz (.int d), s4, s5, .un]) := by
  wp_walk using ed, h
def Lb (F : Nat) : Nat → Nat
  | 0 => 62
  | r + 1 => 10 + F * (Lb F r + 1)
theorem Lb_ge (F r : Nat) (hF : 1 ≤ F) : 62 ≤ Lb F r := by
  induction r with
  | zero => exact Nat.le_refl _
  | succ r ih => unfold Lb; have := Nat.le_mul_of_pos_left (Lb F r + 1) hF; omega
/-- what a drawn value is -/
structure Drawn (b : Book) (k : List Nat) (v : Val) (r L : Nat) : Prop where
  ok : okV v
  is_ : isV b k v = true
  dp : dpV v ≤ r
  ln : (vT v).length ≤ L
theorem isVs_of {b : Book} : ∀ {fs : List (List Nat)} {vs : List Val}, fs.length = vs.length → (∀ (i : Nat) (f : List Nat) (v : Val), fs[i]? = some f → vs[i]? = some v → isV b f v = true) → isVs b fs vs = true
  | [], [], _, _ => rfl
  | f :: fs, v :: vs, hl, h => by
    simp only [isVs, h 0 f v rfl rfl, Bool.true_and]
    exact isVs_of (by simpa using hl) fun i f v h1 h2 => h (i + 1) f v (by simpa using h1) (by simpa using h2)
theorem brT_le (L : Nat) : ∀ (ws : List (List Nat)), (∀ w ∈ ws, w.length ≤ L) → (brT ws).length ≤ ws.length * (L + 1) + 1
  | [], _ => by simp [brT]
  | w :: ws, h => by
    rw [brT_sum]
    have h1 := h w (by simp)
    have h2 : (ws.map fun a => a.length + 1).sum ≤ ws.length * (L + 1) := by
      have hh : ∀ w ∈ ws, w.length ≤ L := fun x hx => h x (by simp [hx])
      clear h h1
      induction ws with
      | nil => simp
      | cons a ws ih =>
        have := ih fun x hx => hh x (by simp [hx])
        have := hh a (by simp)
        simp only [List.map_cons, List.sum_cons, List.length_cons, Nat.succ_mul]; omega
    simp only [List.length_cons, Nat.succ_mul]; omega
theorem find_make {ms : List Mk0} (hn : (ms.map (·.1)).Nodup) {m : Mk0} (hm : m ∈ ms) : ms.find? (fun x => decide (x.1 = m.1)) = some m := by
  induction ms with
  | nil => simp at hm
  | cons a ms ih =>
    simp only [List.map_cons, List.nodup_cons] at hn
    rw [List.find?_cons]
    rcases List.mem_cons.mp hm with rfl | z
    · simp
    · have : ¬ a.1 = m.1 := fun q => hn.1 (by rw [q]; exact List.mem_map.mpr ⟨m, z, rfl⟩)
      rw [decide_eq_false this]; exact ih hn.2 z
theorem allMk_mem {b : Book} {k : List Nat} {m : Mk0} (h : m ∈ allMk b k) : ∃ kd ∈ b, kd.1 = k ∧ m ∈ kd.2 ∧ allMk b k = kd.2 := by
  unfold allMk at h ⊢
  cases q : b.find? (fun x => decide (x.1 = k)) with
  | none => rw [q] at h; simp at h
  | some kd => rw [q] at h; exact ⟨kd, List.mem_of_find?_eq_some q, by simpa using List.find?_some q, h, rfl⟩
theorem mk_nd {b : Book} (hn : ((makesB b).map (·.1)).Nodup) {kd : Kd} (hk : kd ∈ b) : (kd.2.map (·.1)).Nodup := by
  unfold makesB at hn
  induction b with
  | nil => simp at hk
  | cons x b ih =>
    simp only [List.flatMap_cons, List.map_append] at hn
    rw [List.nodup_append] at hn
    rcases List.mem_cons.mp hk with rfl | z
    · exact hn.1
    · exact ih hn.2.1 z
theorem nd_inj {α : Type} : ∀ {l : List α} {i j : Nat} {a : α}, l.Nodup → l[i]? = some a → l[j]? = some a → i = j
  | [], i, _, _, _, h, _ => by simp at h
  | x :: l, 0, 0, _, _, _, _ => rfl
  | x :: l, 0, j + 1, a, hn, h1, h2 => by
    simp at h1 h2; subst h1
    exact absurd (List.mem_of_getElem? h2) (List.nodup_cons.mp hn).1
  | x :: l, i + 1, 0, a, hn, h1, h2 => by
    simp at h1 h2; subst h2
    exact absurd (List.mem_of_getElem? h1) (List.nodup_cons.mp hn).1
  | x :: l, i + 1, j + 1, a, hn, h1, h2 => by
    exact congrArg (· + 1) (nd_inj (List.nodup_cons.mp hn).2 (by simpa using h1) (by simpa using h2))
theorem dget_pl : ∀ (pl : Pln) (i : Nat) (k : List Nat) (m : Mk0), (keysP pl).Nodup → pl[i]? = some (k, m) → dget ((keysP pl).map S) (pl.map fun x => dMake x.2) (S k) = some (dMake m)
  | [], i, k, m, _, h => by simp at h
  | x :: pl, 0, k, m, _, h => by
    simp at h; subst h
    simp [keysP, dget]
  | x :: pl, i + 1, k, m, hn, h => by
    simp only [keysP, List.map_cons, List.nodup_cons] at hn
    have hne : ¬ S x.1 = S k := fun z => hn.1 (by
      rw [S_inj.mp z]
      have := List.mem_of_getElem? (by simpa using h : pl[i]? = some (k, m))
      exact List.mem_map.mpr ⟨_, this, rfl⟩)
    have ih := dget_pl pl i k m hn.2 (by simpa using h)
    simp only [keysP, List.map_cons, dget, if_neg hne]
    exact ih
theorem t_item {b : Book} {pl : Pln} {F : Nat} (B : Bk b F) (hF : 1 ≤ F) (hF4 : F ≤ 4) (hb : b.length ≤ 100) (W : Wp b pl) : ∀ (r n : Nat) (d : Int) (k : List Nat) (p : List D), r + 4 ≤ n → Pl p →
    (k = numL ∨ (0 < d ∧ d.toNat + pl.length ≤ r ∧ k ∈ keysP pl) ∨ (d ≤ 0 ∧ ∃ i, (keysP pl)[i]? = some k ∧ i + 1 ≤ r)) →
    ∃ (v : Val) (p' : List D), Drawn b k v r (Lb F r) ∧ Pl p' ∧ T n ._law_item [.fz (dW b pl), .fz (.str (S k)), .io (.lst p), .fz (.int d)] = .ret (.fz (dVal v)) [.fz (dW b pl), .fz (.str (S k)), .io (.lst p'), .fz (.int d)] := by
  have hnum : ∀ (r n : Nat) (d : Int) (p : List D), 4 ≤ n → Pl p → ∃ (v : Val) (p' : List D), Drawn b numL v r (Lb F r) ∧ Pl p' ∧ T n ._law_item [.fz (dW b pl), .fz (.str (S numL)), .io (.lst p), .fz (.int d)] = .ret (.fz (dVal v)) [.fz (dW b pl), .fz (.str (S numL)), .io (.lst p'), .fz (.int d)] := by
    intro r n d p hn hp
    obtain ⟨n, rfl, hk⟩ := up1 (k := 3) hn
    obtain ⟨i, p', i1, P', h⟩ := t_num (n := n) (by omega) hp
    refine ⟨.num i, p', ⟨?_, ?_, by simp [dpV], ?_⟩, P', item_num n _ p p' d i h⟩
    · exact Nat.lt_trans i1 (by decide)
    · simp [isV]
    · have := Lb_ge F r hF
      have h61 : (itL i).length ≤ 61 := by
        by_cases z : 0 ≤ i
        · rw [itL_pos z]
          have : (TL.numL i.toNat).length ≤ 60 := TL.numL_len (by decide) (by omega)
          omega
        · rw [itL_ng (by omega)]
          have : (TL.numL i.natAbs).length ≤ 60 := TL.numL_len (by decide) i1
          simp only [List.length_cons]; omega
      simp only [vT]; omega
  intro r
  induction r with
  | zero =>
    intro n d k p hn hp h
    rcases h with rfl | ⟨h1, h2, h3⟩ | ⟨h1, i, h2, h3⟩
    · exact hnum 0 n d p (by omega) hp
    · exact absurd h2 (by omega)
    · exact absurd h3 (by omega)
  | succ r ih =>
    intro n d k p hn hp h
    by_cases hkn : k = numL
    · subst hkn; exact hnum _ n d p (by omega) hp
    have hkey : k ∈ keysP pl := by
      rcases h with rfl | ⟨h1, h2, h3⟩ | ⟨h1, i, h2, h3⟩
      · exact absurd rfl hkn
      · exact h3
      · exact List.mem_of_getElem? h2
    obtain ⟨i0, hi0⟩ := List.getElem?_of_mem hkey
    obtain ⟨x0, hx0, ek⟩ : ∃ x0, pl[i0]? = some x0 ∧ x0.1 = k := by
      unfold keysP at hi0
      rw [List.getElem?_map] at hi0
      cases q : pl[i0]? with
      | none => rw [q] at hi0; cases hi0
      | some x => rw [q] at hi0; exact ⟨x, rfl, by simpa using hi0⟩
    obtain ⟨w1, w2, w3⟩ := W.at_ i0 x0 hx0
    rw [ek] at w1
    have hx0' : pl[i0]? = some (k, x0.2) := by rw [hx0, ← ek]
    have hget := dget_pl pl i0 k x0.2 W.nd hx0'
    have hix : ixF (dPl pl) (.str (S k)) = some (.fz (dMake x0.2)) := by
      unfold dPl
      show (dget ((keysP pl).map S) (pl.map fun x => dMake x.2) (S k)).map Rv.fz = _
      rw [hget]; rfl
    obtain ⟨n, rfl, hk⟩ := up1 (k := r + 4) (by omega)
    obtain ⟨kd0, hkd0, ek0, _, eall⟩ := allMk_mem w1
    have hnd : ((allMk b k).map (·.1)).Nodup := by rw [eall]; exact mk_nd B.mn hkd0
    have e0 : decide (k = numL) = false := decide_eq_false hkn
    -- what is made of a make
    have fin : ∀ (m : Mk0) (p1 : List D) (s4 : Sl), m ∈ allMk b k → Pl p1 → (∀ f ∈ m.2, ∀ q, Pl q → ∃ (v : Val) (q' : List D), Drawn b f v r (Lb F r) ∧ Pl q' ∧ T n ._law_item [.fz (dW b pl), .fz (.str (S f)), .io (.lst q), .fz (.int (d - 1))] = .ret (.fz (dVal v)) [.fz (dW b pl), .fz (.str (S f)), .io (.lst q'), .fz (.int (d - 1))]) →
        ∃ (vs : List Val) (p2 : List D), Drawn b k (.mk m.1 vs) (r + 1) (Lb F (r + 1)) ∧ Pl p2 ∧ vs.length ≤ 4 ∧ c__law_item_1 (T n) [.fz (dW b pl), .fz (.str (S k)), .io (.lst p1), .fz (.int d), s4, .fz (dMake m), .un] = .ok (.own (.lst (dVals vs))) [.fz (dW b pl), .fz (.str (S k)), .io (.lst p2), .fz (.int d), s4, .fz (dMake m), .un] := by
      intro m p1 s4 hm P1 hrec
      obtain ⟨kd, hkd, ekd, hmk, eall2⟩ := allMk_mem hm
      have f4 := B.f4 kd hkd m hmk
      have mw := B.mw kd hkd m hmk
      unfold c__law_item_1
      have hI : iterM (opM ixF (nameM 5) (constM (.int 1))) [.fz (dW b pl), .fz (.str (S k)), .io (.lst p1), .fz (.int d), s4, .fz (dMake m), .un] = .ok (m.2.map dStr) [.fz (dW b pl), .fz (.str (S k)), .io (.lst p1), .fz (.int d), s4, .fz (dMake m), .un] := by
        unfold iterM dMake; wp_walk using at1
      -- by the fields ahead
      have go : ∀ (post pre : List (List Nat)) (us : List Val) (q : List D), m.2 = pre ++ post → Pl q → us.length = pre.length → (∀ (i : Nat) (f : List Nat) (v : Val), pre[i]? = some f → us[i]? = some v → Drawn b f v r (Lb F r)) →
          ∃ (vs : List Val) (q' : List D), Pl q' ∧ vs.length = m.2.length ∧ (∀ (i : Nat) (f : List Nat) (v : Val), m.2[i]? = some f → vs[i]? = some v → Drawn b f v r (Lb F r)) ∧
            lcLoop [6] (nameG 6) yesT (callM [false, false, true, false] (T n ._law_item) (consA (nameM 0) (consA (nameM 6) (consA (nameM 2) (consA (opM subF (nameM 3) (constM (.int 1))) nilA))))) (post.map dStr) (dVals us) [.fz (dW b pl), .fz (.str (S k)), .io (.lst q), .fz (.int d), s4, .fz (dMake m), .un] = .ok (dVals vs) [.fz (dW b pl), .fz (.str (S k)), .io (.lst q'), .fz (.int d), s4, .fz (dMake m), .un] := by
        intro post
        induction post with
        | nil =>
          intro pre us q hx hq hl hd
          rw [List.append_nil] at hx
          exact ⟨us, q, hq, by rw [hl, hx], by rw [hx]; exact hd, rfl⟩
        | cons f post ihp =>
          intro pre us q hx hq hl hd
          obtain ⟨v, q1, D1, Q1, h1⟩ := hrec f (by rw [hx]; simp) q hq
          have hw := item_c_walk n (dW b pl) k f q q1 d (d - 1) s4 (.fz (dMake m)) (dVal v) rfl h1
          obtain ⟨e5, g1, g2⟩ := lcW_some hw
          obtain ⟨a1, a2, rr, a3, k1, k2, k3, k4⟩ := lcS_some g1
          obtain ⟨vs, q', Q', l1, l2, l3⟩ := ihp (pre ++ [f]) (us ++ [v]) q1 (by rw [hx]; simp) Q1 (by simp [hl]) (fun i f' v' h1 h2 => by
            by_cases hi : i < pre.length
            · rw [List.getElem?_append_left hi] at h1
              rw [List.getElem?_append_left (by omega)] at h2
              exact hd i f' v' h1 h2
            · rw [List.getElem?_append_right (by omega)] at h1
              rw [List.getElem?_append_right (by omega)] at h2
              have e : i = pre.length := by
                have := (List.getElem?_eq_some_iff.mp h1).1
                simp at this; omega
              subst e
              rw [hl] at h2
              simp at h1 h2
              subst h1 h2; exact D1)
          refine ⟨vs, q', Q', l1, l2, ?_⟩
          have hlt : (dVals us).length < sizeLine := by
            rw [dVals_map, List.length_map, hl]
            have := congrArg List.length hx
            simp only [List.length_append, List.length_cons] at this
            unfold sizeLine; omega
          have eu : dVals us ++ [dVal v] = dVals (us ++ [v]) := by simp [dVals_map]
          rw [List.map_cons]
          show lcLoop _ _ _ _ (.str (S f) :: post.map dStr) _ _ = _
          simp only [lcLoop, k1, k2, k3, k4, if_pos hlt, g2, eu]
          exact l3
      obtain ⟨vs, p2, P2, l1, l2, l3⟩ := go m.2 [] [] p1 rfl P1 rfl (fun i f v h => by simp at h)
      have hmem : ∀ v ∈ vs, ∃ f, Drawn b f v r (Lb F r) := fun v hv => by
        obtain ⟨i, hi⟩ := List.getElem?_of_mem hv
        have hil : i < m.2.length := by have := (List.getElem?_eq_some_iff.mp hi).1; omega
        exact ⟨m.2[i], l2 i _ v (by simp [hil]) hi⟩
      refine ⟨vs, p2, ⟨⟨?_, fun c hc => az_mem.mpr (mw.az c hc), okVs_of fun v hv => (hmem v hv).elim fun f h => h.ok⟩, ?_, ?_, ?_⟩, P2, by omega, ?_⟩
      · intro z; have := mw.one; rw [z] at this; simp at this
      · simp only [isV, e0, Bool.not_false, Bool.true_and]
        rw [find_make hnd hm]
        simp only [l1, decide_true, Bool.true_and]
        exact isVs_of l1.symm fun i f v h1 h2 => (l2 i f v h1 h2).is_
      · have := dpVs_le (vs := vs) (k := r) fun v hv => (hmem v hv).elim fun f h => h.dp
        simp only [dpV]; omega
      · have h1 := brT_le (Lb F r) (vTs vs) (fun w hw => by
          rw [vTs_map] at hw
          obtain ⟨v, hv, rfl⟩ := List.mem_map.mp hw
          exact (hmem v hv).elim fun f h => h.ln)
        have h2 : (vTs vs).length ≤ F := by rw [vTs_map, List.length_map, l1]; exact f4
        have h3 := Nat.mul_le_mul_right (Lb F r + 1) h2
        have h4 := mw.eight
        simp only [vT, List.length_append, Lb]; omega
      · exact lcM_eq hI rfl l3
    rcases h with rfl | ⟨h1, h2, h3⟩ | ⟨h1, i, h2, h3⟩
    · exact absurd rfl hkn
    · have ha := t_alive (n := n) (by omega) b pl k (by rw [eall]; have := B.m6 kd0 hkd0; omega) (fun m hm => by
        obtain ⟨kd, hkd, _, hmk, _⟩ := allMk_mem hm
        have := B.f4 kd hkd m hmk; omega)
      have hmem0 : x0.2 ∈ aliveL b pl k := by
        unfold aliveL
        rw [List.mem_filter]
        refine ⟨w1, decide_eq_true fun f hf => ?_⟩
        rcases List.mem_cons.mp (w3 f hf) with z | z
        · exact .inl z
        · refine .inr ?_
          unfold keysP at z ⊢
          obtain ⟨y, hy, e⟩ := List.mem_map.mp z
          exact List.mem_map.mpr ⟨y, List.mem_of_mem_take hy, e⟩
      have hpos := List.length_pos_of_mem hmem0
      have hle : (aliveL b pl k).length ≤ 6 := by
        have h1 := List.length_filter_le (fun m : Mk0 => decide (∀ f ∈ m.2, f = numL ∨ f ∈ keysP pl)) (allMk b k)
        rw [eall] at h1
        have := B.m6 kd0 hkd0
        unfold aliveL; rw [eall]; omega
      obtain ⟨j, p1, j1, P1, hj⟩ := t_nextN (n := n) (by omega) hp (base := ((((aliveL b pl k).map dMake).length : Nat) : Int)) (by rw [List.length_map]; omega) (by rw [List.length_map]; omega)
      obtain ⟨m, hm, hmat⟩ := getDrawn (l := aliveL b pl k) (d := j) (by rw [List.length_map] at j1; exact j1)
      have hma : atI ((aliveL b pl k).map dMake) (j : Int) = some (dMake m) := by
        rw [atI_nat] at hmat ⊢
        rw [List.getElem?_map, hmat]; rfl
      unfold aliveL at hm
      rw [List.mem_filter] at hm
      have hfs := of_decide_eq_true hm.2
      obtain ⟨vs, p2, D2, P2, l4, hc⟩ := fin m p1 (.own (.lst ((aliveL b pl k).map dMake))) hm.1 P1 (fun f hf q hq => ih n (d - 1) f q (by omega) hq (by
        rcases hfs f hf with z | z
        · exact .inl z
        · by_cases hd : 0 < d - 1
          · exact .inr (.inl ⟨hd, by omega, z⟩)
          · obtain ⟨i, hi⟩ := List.getElem?_of_mem z
            refine .inr (.inr ⟨by omega, i, hi, ?_⟩)
            have := (List.getElem?_eq_some_iff.mp hi).1
            simp only [keysP, List.length_map] at this
            omega))
      exact ⟨.mk m.1 vs, p2, D2, P2, item_walk1 n (dBook b) (dPl pl) k m.1 p p1 p2 d j ((aliveL b pl k).map dMake) (m.2.map dStr) (dMake x0.2) (dVals vs) e0 (decide_eq_true h1) hix ha hj hma hc (by rw [dVals_map, List.length_map]; omega)⟩
    · obtain ⟨j, p1, j1, P1, hj⟩ := t_nextN (n := n) (by omega) hp (base := 1) (by decide) (by decide)
      have ej : (j : Int) = 0 := by omega
      rw [ej] at hj
      have ei : i = i0 := nd_inj W.nd h2 hi0
      subst ei
      obtain ⟨vs, p2, D2, P2, l4, hc⟩ := fin x0.2 p1 (.own (.lst [dMake x0.2])) w1 P1 (fun f hf q hq => ih n (d - 1) f q (by omega) hq (by
        rcases List.mem_cons.mp (w3 f hf) with z | z
        · exact .inl z
        · obtain ⟨i', hi'⟩ := List.getElem?_of_mem z
          have hlt := (List.getElem?_eq_some_iff.mp hi').1
          simp only [keysP, List.length_map, List.length_take] at hlt
          refine .inr (.inr ⟨by omega, i', ?_, by omega⟩)
          unfold keysP at hi' ⊢
          rw [List.getElem?_map] at hi' ⊢
          rw [List.getElem?_take_of_lt (by omega)] at hi'
          exact hi'))
      exact ⟨.mk x0.2.1 vs, p2, D2, P2, item_walk0 n (dBook b) (dPl pl) k x0.2.1 p p1 p2 d 0 (x0.2.2.map dStr) (dVals vs) e0 (decide_eq_false (by omega)) hix hj hc (by rw [dVals_map, List.length_map]; omega)⟩

end Sc.Law
end
section
set_option Elab.async false
set_option linter.all false
set_option autoImplicit false
set_option maxRecDepth 100000
set_option maxHeartbeats 2000000
open PySem L2 Sc
namespace Sc.Law
local macro_rules | `(tactic| wp_walk using $ts,*) => `(tactic| simp (config := { decide := false }) (disch := (with_reducible refine Sz.mk ?_; first | assumption | omega | ((try simp only [List.length_append, List.length_cons, List.length_nil, List.length_map, List.length_replicate, O.toD, S_len]); omega))) only [fnRun, seqM, ifS, orT, andT, notT, andM, orM, notM, ifM, testM, viewB, view, M.bind, M.pure, M.stuck, nameM, constM, bltM, viewAll, consA, nilA, retM, opM, negM, chainM, isiM, tyName, strMM, tupM, lstM, freezeAll, freeze, setM, exprM, callM, callF, prep, lend, backM, wbAll, Rt.rv, iosOf, Arg.sl, List.map_cons, List.map_nil, List.length_cons, List.length_nil, Nat.zero_add, Nat.reduceAdd, Nat.reduceSub, Nat.reduceLT, Nat.reduceEqDiff, List.replicate_succ, List.replicate_zero, List.cons_append, List.nil_append, List.getElem?_cons_zero, List.getElem?_cons_succ, List.set_cons_zero, List.set_cons_succ, methM, isObj, fldM, dget, putFM, objAt, putD, slOf, mutM, lstAt, raiseM, skipM, O.toD, leF, ltF, gtF, geF, subF, iiF, if_true, if_false, Bool.false_eq_true, len_l, len_t, len_d, len_scr, len_s,  Bool.not_true, Bool.not_false, decide_true, decide_false, kit_str_str, kit_str_tuple, kit_str_int, kit_str_bool, kit_int_str, kit_int_int, kit_int_bool, kit_int_tuple, kit_bool_int, kit_bool_bool, kit_bool_tuple, kit_bool_str, kit_tuple_tuple, kit_tuple_str, kit_tuple_int, kit_tuple_bool, kit_none_tuple, kit_none_str, kit_none_int, kit_none_bool, kit_list_tuple, kit_list_str, kit_list_int, nameG, tupGn, consG, nilG, Nat.lt_add_one, ixL, ixT, ixSc, ixAz, ixSS, appendF, Option.map_some, Option.map_none, wipeE, restE, forR, lcW, lcF, lcS, forS, forT, wipeS, extendF, yesT, int_i, int_b, putM, dicAt, putLM, rng1M, addF_ll, addF_ii, addF_tt, tupleF, sliceM, intM, dOpt, eqO_i, neO_i, eqO_S, neO_S, eqO_b, list2_l, list2_t, list2_d, inOF, Bool.false_xor, Bool.true_xor, Bool.true_and, Bool.and_true, Bool.false_and, Bool.and_false, Bool.true_or, Bool.false_or, Bool.or_true, Bool.or_false, ifLt, ifLe, at0, at1, at2, at3, ix0, ix1, ix2, ix3, ne_ss, ne_ps, kn_1, kn_2, kn_3, kn_4, kn_5, kn_6, kn_7, S_cps, mk_S, inF_sign, pow18, pow60, pow30, pow12, pow10, sl_tail, add_md, add_dmd, addSS, modZ, fdivZ, mulZR, mulZL, mulZ_l, S_len, $[$ts:term],*])
/-! a kind of chains behind a book -/
def rowL : List Nat := [114, 111, 119]
def chL : List Nat := [99, 104, 97, 105, 110]
def stL : List Nat := [115, 116, 114, 97, 110, 100, 115]
theorem chained_c1 (T : Fn → Fun) (b : Book) (hb : b.length ≤ 1000) : c__law_chained_1 T [.fz (dBook b), .un, .un, .un, .un, .un, .un, .un, .un, .un] = .ok (.own (.lst ((b.map (·.1)).map dStr))) [.fz (dBook b), .un, .un, .un, .un, .un, .un, .un, .un, .un] := by
  unfold c__law_chained_1
  rw [List.map_map]
  refine lcM_mapW dKind (dStr ∘ (·.1)) b (e1 := [.fz (dBook b), .un, .un, .un, .un, .un, .un, .un, .un, .un]) (by exact rfl) (by omega) fun k _ => ?_
  unfold dKind Function.comp dStr
  wp_walk using at0
theorem chained_c2 (T : Fn → Fun) (a0 s1 s2 s3 s7 s8 : Sl) (ms : List Mk0) (hb : ms.length ≤ 1000) : c__law_chained_2 T [a0, s1, s2, s3, .un, .un, .fz (.tup (ms.map dMake)), s7, s8, .un] = .ok (.own (.lst ((ms.map (·.1)).map dStr))) [a0, s1, s2, s3, .un, .un, .fz (.tup (ms.map dMake)), s7, s8, .un] := by
  unfold c__law_chained_2
  rw [List.map_map]
  refine lcM_mapW dMake (dStr ∘ (·.1)) ms (e1 := [a0, s1, s2, s3, .un, .un, .fz (.tup (ms.map dMake)), s7, s8, .un]) (by exact rfl) (by omega) fun k _ => ?_
  unfold dMake Function.comp dStr
  wp_walk using at0
theorem chained_l_walk (T : Fn → Fun) (a0 s1 s7 s8 : Sl) (x ms : D) (acc ns : List D) (hl : acc.length + ns.length ≤ 10000) (s3 s6 : Sl)
    (h : c__law_chained_2 T [a0, s1, .own (.lst acc), .fz x, .un, .un, .fz ms, s7, s8, .un] = .ok (.own (.lst ns)) [a0, s1, .own (.lst acc), .fz x, .un, .un, .fz ms, s7, s8, .un]) :
    forS (tupGn 2 (consG (nameG 3) (consG (nameG 6) nilG))) (wipeS [3, 6] (setM 2 (opM addF (nameM 2) (c__law_chained_2 T)))) (.tup [x, ms]) [a0, s1, .own (.lst acc), s3, .un, .un, s6, s7, s8, .un] = some [a0, s1, .own (.lst (acc ++ ns)), .un, .un, .un, .un, s7, s8, .un] := by
  wp_walk using h
theorem chained_l (T : Fn → Fun) (b : Book) (s1 : Sl) (hb : b.length ≤ 10) (hm : ∀ k ∈ b, k.2.length ≤ 100) : l__law_chained_1 T [.fz (dBook b), s1, .own (.lst []), .un, .un, .un, .un, .un, .un, .un] = .ok .nx [.fz (dBook b), s1, .own (.lst (((makesB b).map (·.1)).map dStr)), .un, .un, .un, .un, .un, .un, .un] := by
  unfold l__law_chained_1
  obtain ⟨e', q, _, rfl⟩ := forM_all (g := tupGn 2 (consG (nameG 3) (consG (nameG 6) nilG))) (b := wipeS [3, 6] (setM 2 (opM addF (nameM 2) (c__law_chained_2 T)))) (I := iterM (nameM 0)) dKind
    (fun pre e => (makesB pre).length ≤ pre.length * 100 ∧ e = [.fz (dBook b), s1, .own (.lst (((makesB pre).map (·.1)).map dStr)), .un, .un, .un, .un, .un, .un, .un]) b [.fz (dBook b), s1, .own (.lst []), .un, .un, .un, .un, .un, .un, .un] (e1 := [.fz (dBook b), s1, .own (.lst []), .un, .un, .un, .un, .un, .un, .un]) (by exact rfl) ⟨by simp [makesB], rfl⟩ (fun pre k post e hx ⟨hl, he⟩ => by
      subst he
      have hk : k ∈ b := by rw [hx]; simp
      have hkm := hm k hk
      have hpl : pre.length ≤ 10 := by have := congrArg List.length hx; simp at this; omega
      refine ⟨_, chained_l_walk T _ _ _ _ _ _ _ _ (by simp; omega) _ _ (chained_c2 T _ _ _ _ _ _ k.2 (by omega)), ?_, ?_⟩
      · simp only [makesB, List.flatMap_append, List.flatMap_cons, List.flatMap_nil, List.append_nil, List.length_append, List.length_cons, List.length_nil] at hl ⊢; omega
      · simp [makesB])
  exact q
/-- words that aren't taken -/
def free (ws ls : List (List Nat)) : List (List Nat) := ws.filter fun w => decide (w ∉ ls)
theorem free_map (ws ls : List (List Nat)) : ws.filterMap (fun w => if w ∈ ls then none else some (dStr w)) = (free ws ls).map dStr := by
  unfold free
  induction ws with
  | nil => rfl
  | cons w ws ih =>
    by_cases h : w ∈ ls
    · rw [List.filterMap_cons, if_pos h, List.filter_cons, if_neg (by simpa using h)]; exact ih
    · rw [List.filterMap_cons, if_neg h, List.filter_cons, if_pos (by simpa using h), List.map_cons, ih]
theorem free_walk1 (w : List Nat) (ls : List (List Nat)) (a0 s2 s3 s4 s5 s6 s7 s9 : Sl) : lcF [8] (nameG 8) (testM (opM (inOF true) (nameM 8) (nameM 1))) (nameM 8) (dStr w) [a0, .own (.lst (ls.map dStr)), s2, s3, s4, s5, s6, s7, .un, s9] = some (if w ∈ ls then none else some (dStr w), [a0, .own (.lst (ls.map dStr)), s2, s3, s4, s5, s6, s7, .un, s9]) := by
  have h := in_lS w ls
  unfold dStr
  by_cases hw : w ∈ ls
  · rw [decide_eq_true hw] at h; rw [if_pos hw]
    generalize (ls.map fun l => D.str (S l)) = ds at *
    wp_walk using h
  · rw [decide_eq_false hw] at h; rw [if_neg hw]
    generalize (ls.map fun l => D.str (S l)) = ds at *
    wp_walk using h
theorem free_walk2 (w : List Nat) (ls : List (List Nat)) (a0 s1 s3 s4 s5 s6 s7 s9 : Sl) : lcF [8] (nameG 8) (testM (opM (inOF true) (nameM 8) (nameM 2))) (nameM 8) (dStr w) [a0, s1, .own (.lst (ls.map dStr)), s3, s4, s5, s6, s7, .un, s9] = some (if w ∈ ls then none else some (dStr w), [a0, s1, .own (.lst (ls.map dStr)), s3, s4, s5, s6, s7, .un, s9]) := by
  have h := in_lS w ls
  unfold dStr
  by_cases hw : w ∈ ls
  · rw [decide_eq_true hw] at h; rw [if_pos hw]
    generalize (ls.map fun l => D.str (S l)) = ds at *
    wp_walk using h
  · rw [decide_eq_false hw] at h; rw [if_neg hw]
    generalize (ls.map fun l => D.str (S l)) = ds at *
    wp_walk using h
theorem free_c1 (w1 w2 w3 : List Nat) (ls : List (List Nat)) (a0 s2 s3 s4 s5 s6 s7 s9 : Sl) : lcM [8] (nameG 8) (testM (opM (inOF true) (nameM 8) (nameM 1))) (nameM 8) (iterM (lstM (consA (constM (.str (S w1))) (consA (constM (.str (S w2))) (consA (constM (.str (S w3))) nilA))))) [a0, .own (.lst (ls.map dStr)), s2, s3, s4, s5, s6, s7, .un, s9] = .ok (.own (.lst ((free [w1, w2, w3] ls).map dStr))) [a0, .own (.lst (ls.map dStr)), s2, s3, s4, s5, s6, s7, .un, s9] := by
  rw [← free_map]
  exact lcM_flt dStr (fun w => if w ∈ ls then none else some (dStr w)) [w1, w2, w3] (e1 := [a0, .own (.lst (ls.map dStr)), s2, s3, s4, s5, s6, s7, .un, s9]) (by exact rfl) (by simp) fun w _ => free_walk1 w ls a0 s2 s3 s4 s5 s6 s7 s9
theorem free_c2 (w1 w2 w3 : List Nat) (ls : List (List Nat)) (a0 s1 s3 s4 s5 s6 s7 s9 : Sl) : lcM [8] (nameG 8) (testM (opM (inOF true) (nameM 8) (nameM 2))) (nameM 8) (iterM (lstM (consA (constM (.str (S w1))) (consA (constM (.str (S w2))) (consA (constM (.str (S w3))) nilA))))) [a0, s1, .own (.lst (ls.map dStr)), s3, s4, s5, s6, s7, .un, s9] = .ok (.own (.lst ((free [w1, w2, w3] ls).map dStr))) [a0, s1, .own (.lst (ls.map dStr)), s3, s4, s5, s6, s7, .un, s9] := by
  rw [← free_map]
  exact lcM_flt dStr (fun w => if w ∈ ls then none else some (dStr w)) [w1, w2, w3] (e1 := [a0, s1, .own (.lst (ls.map dStr)), s3, s4, s5, s6, s7, .un, s9]) (by exact rfl) (by simp) fun w _ => free_walk2 w ls a0 s1 s3 s4 s5 s6 s7 s9
theorem free_some {ws ls : List (List Nat)} {L d : Nat} (hL : ∀ w ∈ ls, L ≤ w.length ∧ w.length ≤ L + d) {w1 w2 : List Nat} (h1 : w1 ∈ ws) (h2 : w2 ∈ ws) (h : w1.length + d < w2.length) : ∃ w us, free ws ls = w :: us ∧ w ∈ ws ∧ w ∉ ls := by
  have key : ∃ w ∈ ws, w ∉ ls := by
    by_cases z : w1 ∈ ls
    · refine ⟨w2, h2, fun z2 => ?_⟩
      have a := hL _ z; have b := hL _ z2; omega
    · exact ⟨w1, h1, z⟩
  obtain ⟨w, hw, hn⟩ := key
  have hm : w ∈ free ws ls := by unfold free; rw [List.mem_filter]; exact ⟨hw, by simpa using hn⟩
  cases q : free ws ls with
  | nil => rw [q] at hm; simp at hm
  | cons a us =>
    have ha : a ∈ free ws ls := by rw [q]; simp
    unfold free at ha
    rw [List.mem_filter] at ha
    exact ⟨a, us, rfl, ha.1, by simpa using ha.2⟩
/-- the kind of chains -/
def chK (k e m : List Nat) : Kd := (k, [(e, []), (m, [numL, k])])
theorem chained_walk (n : Nat) (bs : List D) (d1 d2 d3 d4 d5 : List D) (k e m : D)
    (h1 : c__law_chained_1 (T n) [.fz (.tup bs), .un, .un, .un, .un, .un, .un, .un, .un, .un] = .ok (.own (.lst d1)) [.fz (.tup bs), .un, .un, .un, .un, .un, .un, .un, .un, .un])
    (h2 : l__law_chained_1 (T n) [.fz (.tup bs), .own (.lst d1), .own (.lst []), .un, .un, .un, .un, .un, .un, .un] = .ok .nx [.fz (.tup bs), .own (.lst d1), .own (.lst d2), .un, .un, .un, .un, .un, .un, .un])
    (h3 : c__law_chained_3 (T n) [.fz (.tup bs), .own (.lst d1), .own (.lst d2), .un, .un, .un, .un, .un, .un, .un] = .ok (.own (.lst (k :: d3))) [.fz (.tup bs), .own (.lst d1), .own (.lst d2), .un, .un, .un, .un, .un, .un, .un])
    (h4 : c__law_chained_4 (T n) [.fz (.tup bs), .own (.lst d1), .own (.lst d2), .fz k, .un, .un, .un, .un, .un, .un] = .ok (.own (.lst (e :: d4))) [.fz (.tup bs), .own (.lst d1), .own (.lst d2), .fz k, .un, .un, .un, .un, .un, .un])
    (h5 : c__law_chained_5 (T n) [.fz (.tup bs), .own (.lst d1), .own (.lst d2), .fz k, .own (.lst (e :: d4)), .un, .un, .un, .un, .un] = .ok (.own (.lst (m :: d5))) [.fz (.tup bs), .own (.lst d1), .own (.lst d2), .fz k, .own (.lst (e :: d4)), .un, .un, .un, .un, .un]) (hl : bs.length ≤ 100) :
    T (n + 1) ._law_chained [.fz (.tup bs)] = .ret (.fz (.tup (bs ++ [.tup [k, .tup [.tup [e, .tup []], .tup [m, .tup [.str (S numL), k]]]]]))) [.fz (.tup bs)] := by
  show fnRun 10 (b__law_chained (T n)) _ = _
  unfold b__law_chained
  wp_walk using h1, h2, h3, h4, h5, List.length_nil
theorem t_chained {n : Nat} (hn : 1 ≤ n) {b : Book} {F : Nat} (B : Bk b F) (hF : 2 ≤ F) (hb : b.length ≤ 6) (hk : ∃ L, ∀ k ∈ b, L ≤ k.1.length ∧ k.1.length ≤ L + 2) (hm : ∃ L, ∀ x ∈ makesB b, L ≤ x.1.length ∧ x.1.length ≤ L + 1) :
    ∃ k e m, Bk (b ++ [chK k e m]) F ∧ T n ._law_chained [.fz (dBook b)] = .ret (.fz (dBook (b ++ [chK k e m]))) [.fz (dBook b)] := by
  obtain ⟨n, rfl, _⟩ := up1 hn
  obtain ⟨Lk, hLk⟩ := hk
  obtain ⟨Lm, hLm⟩ := hm
  obtain ⟨k, us1, f1, k1, k2⟩ := free_some (ws := [rowL, chL, stL]) (ls := b.map (·.1)) (L := Lk) (d := 2) (fun w hw => by obtain ⟨x, hx, rfl⟩ := List.mem_map.mp hw; exact hLk x hx) (w1 := rowL) (w2 := stL) (by simp) (by simp) (by decide)
  obtain ⟨e, us2, f2, e1, e2⟩ := free_some (ws := [[101], [101, 110, 100], [116, 104, 101, 101, 110, 100]]) (ls := (makesB b).map (·.1)) (L := Lm) (d := 1) (fun w hw => by obtain ⟨x, hx, rfl⟩ := List.mem_map.mp hw; exact hLm x hx) (w1 := [101]) (w2 := [116, 104, 101, 101, 110, 100]) (by simp) (by simp) (by decide)
  obtain ⟨m, us3, f3, m1, m2⟩ := free_some (ws := [[97, 98], [109, 111, 114, 101], [102, 117, 114, 116, 104, 101, 114, 115]]) (ls := (makesB b).map (·.1)) (L := Lm) (d := 1) (fun w hw => by obtain ⟨x, hx, rfl⟩ := List.mem_map.mp hw; exact hLm x hx) (w1 := [97, 98]) (w2 := [109, 111, 114, 101]) (by simp) (by simp) (by decide)
  have wk : Wd k ∧ k ≠ numL := by
    simp only [List.mem_cons, List.not_mem_nil, or_false] at k1
    rcases k1 with rfl | rfl | rfl <;> exact ⟨⟨by decide, by decide, by decide⟩, by decide⟩
  have we : Wd e := by
    simp only [List.mem_cons, List.not_mem_nil, or_false] at e1
    rcases e1 with rfl | rfl | rfl <;> exact ⟨by decide, by decide, by decide⟩
  have wm : Wd m ∧ m ≠ e := by
    simp only [List.mem_cons, List.not_mem_nil, or_false] at m1 e1
    rcases m1 with rfl | rfl | rfl <;> rcases e1 with rfl | rfl | rfl <;> exact ⟨⟨by decide, by decide, by decide⟩, by decide⟩
  have emk : makesB (b ++ [chK k e m]) = makesB b ++ [(e, []), (m, [numL, k])] := by simp [makesB, chK]
  refine ⟨k, e, m, ⟨by simp, ?_, ?_, ?_, ?_, ?_, ?_, ?_, ?_⟩, ?_⟩
  · intro x hx
    rcases List.mem_append.mp hx with z | z
    · exact B.kw x z
    · simp at z; subst z; exact wk.1
  · intro x hx
    rcases List.mem_append.mp hx with z | z
    · exact B.m1 x z
    · simp at z; subst z; simp [chK]
  · intro x hx
    rcases List.mem_append.mp hx with z | z
    · exact B.m6 x z
    · simp at z; subst z; simp [chK]
  · intro x hx y hy
    rcases List.mem_append.mp hx with z | z
    · exact B.mw x z y hy
    · simp at z; subst z
      simp [chK] at hy
      rcases hy with rfl | rfl
      · exact we
      · exact wm.1
  · intro x hx y hy
    rcases List.mem_append.mp hx with z | z
    · exact B.f4 x z y hy
    · simp at z; subst z
      simp [chK] at hy
      rcases hy with rfl | rfl
      · simp
      · simp; exact hF
  · intro x hx y hy f hf
    rcases List.mem_append.mp hx with z | z
    · have := B.fk x z y hy f hf
      simp only [List.mem_cons, List.map_append, List.mem_append] at this ⊢
      rcases this with q | q
      · exact .inl q
      · exact .inr (.inl q)
    · simp at z; subst z
      simp [chK] at hy
      rcases hy with rfl | rfl
      · simp at hf
      · simp at hf
        rcases hf with rfl | rfl
        · simp
        · simp [chK]
  · have := B.kn
    rw [List.map_append]
    rw [← List.cons_append, List.nodup_append]
    refine ⟨this, by simp [chK], fun a ha c hc z => ?_⟩
    simp [chK] at hc; subst hc; subst z
    rcases List.mem_cons.mp ha with q | q
    · exact wk.2 q
    · exact k2 q
  · rw [emk, List.map_append, List.nodup_append]
    refine ⟨B.mn, by simp [Ne.symm wm.2], fun a ha c hc z => ?_⟩
    subst z
    simp at hc
    rcases hc with rfl | rfl
    · exact e2 ha
    · exact m2 ha
  · have q1 := chained_c1 (T n) b (by omega)
    have q2 := chained_l (T n) b (.own (.lst ((b.map (·.1)).map dStr))) (by omega) fun k hk => by have := B.m6 k hk; omega
    have q3 := free_c1 rowL chL stL (b.map (fun x : Kd => x.1)) (.fz (dBook b)) (.own (.lst (((makesB b).map (fun x : Mk0 => x.1)).map dStr))) .un .un .un .un .un .un
    rw [f1] at q3
    have q4 := free_c2 [101] [101, 110, 100] [116, 104, 101, 101, 110, 100] ((makesB b).map (fun x : Mk0 => x.1)) (.fz (dBook b)) (.own (.lst ((b.map (fun x : Kd => x.1)).map dStr))) (.fz (dStr k)) .un .un .un .un .un
    rw [f2] at q4
    have q5 := free_c2 [97, 98] [109, 111, 114, 101] [102, 117, 114, 116, 104, 101, 114, 115] ((makesB b).map (fun x : Mk0 => x.1)) (.fz (dBook b)) (.own (.lst ((b.map (fun x : Kd => x.1)).map dStr))) (.fz (dStr k)) (.own (.lst ((e :: us2).map dStr))) .un .un .un .un
    rw [f3] at q5
    have := chained_walk n (b.map dKind) _ _ _ _ _ (dStr k) (dStr e) (dStr m) q1 q2 q3 q4 q5 (by simp; omega)
    have ee : dBook (b ++ [chK k e m]) = .tup (b.map dKind ++ [.tup [dStr k, .tup [.tup [dStr e, .tup []], .tup [dStr m, .tup [.str (S numL), dStr k]]]]]) := by simp [dBook, dKind, chK, dMake, dStr]
    rw [ee]
    exact this
/-! a chain -/
def chV (e m : List Nat) : Nat → Val
  | 0 => .mk e []
  | j + 1 => .mk m [.num ((j : Int) - 3), chV e m j]
theorem chain_walk (n : Nat) (s0 s1 s4 : Sl) (m : List Nat) (fs : D) (v k : D) (i : Int) (hk : k = .int i) :
    forT (nameG 3) (wipeS [3] (setM 2 (tupM (consA (opM ixF (nameM 5) (constM (.int 0))) (consA (opM subF (nameM 3) (constM (.int 3))) (consA (nameM 2) nilA)))))) k [s0, s1, .fz v, .un, s4, .fz (.tup [.str (S m), fs])] = .ok .nx [s0, s1, .fz (.tup [.str (S m), .int (i - 3), v]), .un, s4, .fz (.tup [.str (S m), fs])] := by
  subst hk
  wp_walk using List.length_nil
theorem chain_run (n : Nat) (bs : List D) (k e m efs mfs : D) (i : Int) (v v0 : D) (hlast : atI bs (-1) = some (.tup [k, .tup [.tup [e, efs], .tup [m, mfs]]])) (h : l__law_chain_1 (T n) [.fz (.tup bs), .fz (.int i), .fz (.tup [e]), .un, .fz (.tup [e, efs]), .fz (.tup [m, mfs])] = .ok .nx [.fz (.tup bs), .fz (.int i), .fz v, .un, .fz (.tup [e, efs]), .fz (.tup [m, mfs])]) :
    T (n + 1) ._law_chain [.fz (.tup bs), .fz (.int i)] = .ret (.fz v) [.fz (.tup bs), .fz (.int i)] := by
  show fnRun 6 (b__law_chain (T n)) _ = _
  unfold b__law_chain
  wp_walk using hlast, h, asgM, List.length_nil
theorem at_last {α : Type} (l : List α) (a : α) : atI (l ++ [a]) (-1) = some a := by
  unfold atI ixN
  have h1 : ¬ (0 ≤ (-1 : Int)) := by decide
  have h2 : (-(((l ++ [a]).length : Nat) : Int)) ≤ -1 := by simp; omega
  simp only [h1, if_false, h2, if_true]
  have e : ((-1 : Int) + (((l ++ [a]).length : Nat) : Int)).toNat = l.length := by simp; omega
  simp only [e]
  show (l ++ [a])[l.length]? = some a
  simp
theorem t_chain {n : Nat} (hn : 1 ≤ n) (b : Book) (k e m : List Nat) (j : Nat) (hj : j ≤ 1000) : T n ._law_chain [.fz (dBook (b ++ [chK k e m])), .fz (.int (j : Int))] = .ret (.fz (dVal (chV e m j))) [.fz (dBook (b ++ [chK k e m])), .fz (.int (j : Int))] := by
  obtain ⟨n, rfl, _⟩ := up1 hn
  have hl := at_last (b.map dKind) (dKind (chK k e m))
  have e1 : b.map dKind ++ [dKind (chK k e m)] = (b ++ [chK k e m]).map dKind := by simp
  rw [e1] at hl
  have h : ∀ i : Nat, i ≤ j → True := fun _ _ => trivial
  refine chain_run n _ (dStr k) (dStr e) (dStr m) (.tup []) (.tup [dStr numL, dStr k]) j (dVal (chV e m j)) (.tup [dStr e]) hl ?_
  unfold l__law_chain_1
  obtain ⟨q1, q2⟩ := forM_fold (g := nameG 3) (b := (wipeS [3] (setM 2 (tupM (consA (opM ixF (nameM 5) (constM (.int 0))) (consA (opM subF (nameM 3) (constM (.int 3))) (consA (nameM 2) nilA)))))))
    (I := rng1M (consA (nameM 1) nilA)) (fun i : Nat => D.int (i : Int)) (fun v : Val => ([.fz (.tup ((b ++ [chK k e m]).map dKind)), .fz (.int (j : Int)), .fz (dVal v), .un, .fz (.tup [dStr e, .tup []]), .fz (.tup [dStr m, .tup [dStr numL, dStr k]])] : Ev)) (fun v i => .mk m [.num ((i : Int) - 3), v]) (fun p v => v = chV e m p.length ∧ p = List.range p.length) (List.range j) (.mk e [])
    (e := [.fz (.tup ((b ++ [chK k e m]).map dKind)), .fz (.int (j : Int)), .fz (.tup [dStr e]), .un, .fz (.tup [dStr e, .tup []]), .fz (.tup [dStr m, .tup [dStr numL, dStr k]])]) (by rw [← range0]; exact rng1_of (by omega) (by exact rfl)) ⟨rfl, rfl⟩ (fun p i q v hx ⟨hv, hp⟩ => by
      have hi : i = p.length := by
        have h1 : (List.range j)[p.length]? = some i := by rw [hx]; simp
        have hlt : p.length < j := by have := congrArg List.length hx; simp at this; omega
        rw [List.getElem?_range hlt] at h1
        simpa using h1.symm
      refine ⟨?_, ?_, ?_⟩
      · have := chain_walk n (.fz (.tup ((b ++ [chK k e m]).map dKind))) (.fz (.int (j : Int))) (.fz (.tup [dStr e, .tup []])) m (.tup [dStr numL, dStr k]) (dVal v) (.int (i : Int)) i rfl
        simpa [dVal, dVals, dStr] using this
      · rw [List.length_append, hv, hi]; rfl
      · rw [List.length_append, List.length_cons, List.length_nil, List.range_succ, ← hp, hi])
  obtain ⟨g1, _⟩ := q2
  rw [g1] at q1
  simpa [dVal, dVals, dStr] using q1

end Sc.Law
end
section
set_option Elab.async false
set_option linter.all false
set_option autoImplicit false
set_option maxRecDepth 100000
set_option maxHeartbeats 2000000
open PySem L2 Sc
namespace Sc.Law
local macro_rules | `(tactic| wp_walk using $ts,*) => `(tactic| simp (config := { decide := false }) (disch := (with_reducible refine Sz.mk ?_; first | assumption | omega | ((try simp only [List.length_append, List.length_cons, List.length_nil, List.length_map, List.length_replicate, O.toD, S_len]); omega))) only [fnRun, seqM, ifS, orT, andT, notT, andM, orM, notM, ifM, testM, viewB, view, M.bind, M.pure, M.stuck, nameM, constM, bltM, viewAll, consA, nilA, retM, opM, negM, chainM, isiM, tyName, strMM, tupM, lstM, freezeAll, freeze, setM, exprM, callM, callF, prep, lend, backM, wbAll, Rt.rv, iosOf, Arg.sl, List.map_cons, List.map_nil, List.length_cons, List.length_nil, Nat.zero_add, Nat.reduceAdd, Nat.reduceSub, Nat.reduceLT, Nat.reduceEqDiff, List.replicate_succ, List.replicate_zero, List.cons_append, List.nil_append, List.getElem?_cons_zero, List.getElem?_cons_succ, List.set_cons_zero, List.set_cons_succ, methM, isObj, fldM, dget, putFM, objAt, putD, slOf, mutM, lstAt, raiseM, skipM, O.toD, leF, ltF, gtF, geF, subF, iiF, if_true, if_false, Bool.false_eq_true, len_l, len_t, len_d, len_scr, len_s,  Bool.not_true, Bool.not_false, decide_true, decide_false, kit_str_str, kit_str_tuple, kit_str_int, kit_str_bool, kit_int_str, kit_int_int, kit_int_bool, kit_int_tuple, kit_bool_int, kit_bool_bool, kit_bool_tuple, kit_bool_str, kit_tuple_tuple, kit_tuple_str, kit_tuple_int, kit_tuple_bool, kit_none_tuple, kit_none_str, kit_none_int, kit_none_bool, kit_list_tuple, kit_list_str, kit_list_int, nameG, tupGn, consG, nilG, Nat.lt_add_one, ixL, ixT, ixSc, ixAz, ixSS, appendF, Option.map_some, Option.map_none, wipeE, restE, forR, lcW, lcF, lcS, forS, forT, wipeS, extendF, yesT, int_i, int_b, putM, dicAt, putLM, rng1M, addF_ll, addF_ii, addF_tt, tupleF, sliceM, intM, dOpt, eqO_i, neO_i, eqO_S, neO_S, eqO_b, list2_l, list2_t, list2_d, inOF, Bool.false_xor, Bool.true_xor, Bool.true_and, Bool.and_true, Bool.false_and, Bool.and_false, Bool.true_or, Bool.false_or, Bool.or_true, Bool.or_false, ifLt, ifLe, at0, at1, at2, at3, ix0, ix1, ix2, ix3, ne_ss, ne_ps, kn_1, kn_2, kn_3, kn_4, kn_5, kn_6, kn_7, S_cps, mk_S, inF_sign, pow18, pow60, pow30, pow12, pow10, sl_tail, add_md, add_dmd, addSS, modZ, fdivZ, mulZR, mulZL, mulZ_l, S_len, $[$ts:term],*])
/-! a book drawn -/
def kdsD (ks : List (List Nat)) : List D := ks.map dStr
def vE (p : List D) (m : Int) (ks ns : List (List Nat)) (bk : List Kd) (s5 s6 s7 s9 s10 : Sl) : Ev :=
  [.io (.lst p), .fz (.int m), .fz (.lst (ks.map dStr)), .own (.lst (ns.map dStr)), .own (.lst (bk.map dKind)), s5, s6, s7, .un, s9, s10, .un]
theorem vol_field_walk (n : Nat) (p p' : List D) (m i : Int) (ks ns : List D) (bk : List D) (s5 s6 s7 s10 : Sl) (c : Int) (x d : D)
    (h : T n ._law_next [.io (.lst p), .fz (.int (m + 2))] = .ret (.fz (.int i)) [.io (.lst p'), .fz (.int (m + 2))]) (hx : atI (ks ++ [D.str (S numL), D.str (S numL)]) i = some x) (hl : ks.length ≤ 100) :
    lcW [11] (nameG 11) yesT (opM ixF (opM addF (nameM 2) (opM mulF2 (lstM (consA (constM (.str (S numL))) nilA)) (constM (.int 2)))) (callM [true, false] (T n ._law_next) (consA (nameM 0) (consA (opM addF (nameM 1) (constM (.int 2))) nilA)))) d
      [.io (.lst p), .fz (.int m), .fz (.lst ks), .own (.lst ns), .own (.lst bk), s5, s6, s7, .un, .fz (.int c), s10, .un] = some (x, [.io (.lst p'), .fz (.int m), .fz (.lst ks), .own (.lst ns), .own (.lst bk), s5, s6, s7, .un, .fz (.int c), s10, .un]) := by
  have e : mulF2 (.lst [D.str (S numL)]) (.int 2) = some (.own (.lst [D.str (S numL), D.str (S numL)])) := mul2_l (by decide) (by decide) (by decide)
  wp_walk using h, e, hx
theorem c_fields {n : Nat} (hn : 1 ≤ n) {p : List D} (h : Pl p) (m : Nat) (ks ns : List (List Nat)) (hk : ks.length = m) (hm : m ≤ 6) (bk : List Kd) (s5 s6 s7 s10 : Sl) (c : Nat) (hc : c ≤ 100) : ∃ (fs : List (List Nat)) (p' : List D), Pl p' ∧ fs.length = c ∧ (∀ f ∈ fs, f ∈ numL :: ks) ∧
    c__law_volume_2 (T n) (vE p m ks ns bk s5 s6 s7 (.fz (.int (c : Int))) s10) = .ok (.own (.lst (fs.map dStr))) (vE p' m ks ns bk s5 s6 s7 (.fz (.int (c : Int))) s10) := by
  unfold c__law_volume_2
  have hG : consA (nameM 9) nilA (vE p m ks ns bk s5 s6 s7 (.fz (.int (c : Int))) s10) = .ok [.fz (.int (c : Int))] (vE p m ks ns bk s5 s6 s7 (.fz (.int (c : Int))) s10) := rfl
  obtain ⟨acc, e2, q1, q2, q3⟩ := lcM_invW (vs := [11]) (g := nameG 11) (T := yesT) (A := opM ixF (opM addF (nameM 2) (opM mulF2 (lstM (consA (constM (.str (S numL))) nilA)) (constM (.int 2)))) (callM [true, false] (T n ._law_next) (consA (nameM 0) (consA (opM addF (nameM 1) (constM (.int 2))) nilA))))
    (fun acc e => ∃ (fs : List (List Nat)) (p' : List D), acc = fs.map dStr ∧ (∀ f ∈ fs, f ∈ numL :: ks) ∧ Pl p' ∧ e = vE p' m ks ns bk s5 s6 s7 (.fz (.int (c : Int))) s10) (rng1_of (by omega) hG) (by rw [range_len]; omega) ⟨[], p, rfl, by simp, h, rfl⟩ (fun d hd acc e ⟨fs, p', ha, hz, hp, he⟩ => by
      subst ha he
      obtain ⟨j, p2, j1, P2, h2⟩ := t_nextN hn hp (base := (m : Int) + 2) (by omega) (by omega)
      obtain ⟨w, hw, ha⟩ := getDrawn (l := ks ++ [numL, numL]) (d := j) (by simp; omega)
      have hx : atI (ks.map dStr ++ [D.str (S numL), D.str (S numL)]) (j : Int) = some (dStr w) := by
        rw [atI_nat] at ha ⊢
        have : ks.map dStr ++ [D.str (S numL), D.str (S numL)] = (ks ++ [numL, numL]).map dStr := by simp [dStr]
        rw [this, List.getElem?_map, ha]; rfl
      refine ⟨_, _, vol_field_walk n p' p2 (m : Int) j (ks.map dStr) (ns.map dStr) (bk.map dKind) s5 s6 s7 s10 c (dStr w) d h2 hx (by simp; omega), fs ++ [w], p2, by simp, ?_, P2, rfl⟩
      intro f hf
      rcases List.mem_append.mp hf with q | q
      · exact hz f q
      · simp at q; subst q
        simp at hw ⊢; rcases hw with hw | hw
        · exact .inr hw
        · exact .inl hw)
  obtain ⟨fs, p', rfl, hz, hp, rfl⟩ := q2
  refine ⟨fs, p', hp, ?_, hz, q1⟩
  rw [range_len] at q3
  simpa using q3
theorem vol_make_walk (n : Nat) (p p1 p2 : List D) (m i j c0 c1 c : Int) (b : Bool) (ks ns ns' bk sm fs : List D) (nm : D) (s5 s7 : Sl) (k : D)
    (h1 : T n ._law_next [.io (.lst p), .fz (.int 8)] = .ret (.fz (.int i)) [.io (.lst p1), .fz (.int 8)])
    (a1 : atI [D.int 0, D.int 0, D.int 1, D.int 1, D.int 2, D.int 2, D.int 3, D.int 4] i = some (.int c0)) (e1 : decide (4 < m) = b) (a2 : atI [D.int 4, D.int 2] (if b then 1 else 0) = some (.int c1)) (hc : minF [.int c0, .int c1] = some (.fz (.int c)))
    (h2 : c__law_volume_2 (T n) [.io (.lst p1), .fz (.int m), .fz (.lst ks), .own (.lst ns), .own (.lst bk), s5, .own (.lst sm), .fz k, .un, .fz (.int c), .un, .un] = .ok (.own (.lst fs)) [.io (.lst p2), .fz (.int m), .fz (.lst ks), .own (.lst ns), .own (.lst bk), s5, .own (.lst sm), .fz k, .un, .fz (.int c), .un, .un])
    (hp : popAtF [.int 0] ns = some (nm, ns')) (hl : sm.length ≤ 100) :
    forS (nameG 7) (wipeS [7, 9, 10] (seqM (setM 9 (bltM minF (consA (opM ixF (lstM (consA (constM (.int 0)) (consA (constM (.int 0)) (consA (constM (.int 1)) (consA (constM (.int 1)) (consA (constM (.int 2)) (consA (constM (.int 2)) (consA (constM (.int 3)) (consA (constM (.int 4)) nilA))))))))) (callM [true, false] (T n ._law_next) (consA (nameM 0) (consA (constM (.int 8)) nilA)))) (consA (opM ixF (lstM (consA (constM (.int 4)) (consA (constM (.int 2)) nilA))) (bltM intF (consA (opM gtF (nameM 1) (constM (.int 4))) nilA))) nilA))))
    (seqM (setM 10 (c__law_volume_2 (T n)))
    (exprM (mutM appendF 6 (consA (tupM (consA (mutM popAtF 3 (consA (constM (.int 0)) nilA)) (consA (bltM tupleF (consA (nameM 10) nilA)) nilA))) nilA)))))) k
      [.io (.lst p), .fz (.int m), .fz (.lst ks), .own (.lst ns), .own (.lst bk), s5, .own (.lst sm), s7, .un, .un, .un, .un] = some [.io (.lst p2), .fz (.int m), .fz (.lst ks), .own (.lst ns'), .own (.lst bk), s5, .own (.lst (sm ++ [.tup [nm, .tup fs]])), .un, .un, .un, .un, .un] := by
  wp_walk using h1, a1, e1, a2, hc, h2, hp, List.length_nil
theorem pop0 (a : D) (l : List D) : popAtF [.int 0] (a :: l) = some (a, l) := rfl
theorem cnts {i : Nat} (h : i < 8) : ∃ c : Nat, c ≤ 4 ∧ atI [D.int 0, D.int 0, D.int 1, D.int 1, D.int 2, D.int 2, D.int 3, D.int 4] (i : Int) = some (.int (c : Int)) := by
  have : ∀ i : Fin 8, ∃ c : Fin 5, [(0 : Int), 0, 1, 1, 2, 2, 3, 4][i.val]? = some (c.val : Int) := by decide
  obtain ⟨c, hc⟩ := this ⟨i, h⟩
  refine ⟨c.val, by omega, atN ?_⟩
  have e : [D.int 0, D.int 0, D.int 1, D.int 1, D.int 2, D.int 2, D.int 3, D.int 4] = [(0 : Int), 0, 1, 1, 2, 2, 3, 4].map D.int := rfl
  rw [e, List.getElem?_map, hc]; rfl
theorem mins {i : Nat} (h : i < 8) : ∃ c : Nat, 1 ≤ c ∧ c ≤ 6 ∧ atI [D.int 1, D.int 2, D.int 2, D.int 3, D.int 3, D.int 2, D.int 4, D.int 6] (i : Int) = some (.int (c : Int)) := by
  have : ∀ i : Fin 8, ∃ c : Fin 7, 1 ≤ c.val ∧ [(1 : Int), 2, 2, 3, 3, 2, 4, 6][i.val]? = some (c.val : Int) := by decide
  obtain ⟨c, h1, hc⟩ := this ⟨i, h⟩
  refine ⟨c.val, h1, by omega, atN ?_⟩
  have e : [D.int 1, D.int 2, D.int 2, D.int 3, D.int 3, D.int 2, D.int 4, D.int 6] = [(1 : Int), 2, 2, 3, 3, 2, 4, 6].map D.int := rfl
  rw [e, List.getElem?_map, hc]; rfl
/-- how many fields a make may have -/
def fMax (m : Nat) : Nat := if 4 < m then 2 else 4
theorem vol_makes {n : Nat} (hn : 1 ≤ n) {p : List D} (h : Pl p) (m : Nat) (ks ns : List (List Nat)) (hk : ks.length = m) (hm : m ≤ 6) (bk : List Kd) (s5 s7 : Sl) {I : M (List D)} {e0 : Ev} (c : Nat) (hc : c ≤ ns.length) (c6 : c ≤ 6)
    (hI : I e0 = .ok (rangeD 0 c) (vE p m ks ns bk s5 (.own (.lst [])) s7 .un .un)) (h7 : s7 = .un) : ∃ (sm : List Mk0) (p' : List D), Pl p' ∧ sm.length = c ∧ (∀ x ∈ sm, x.2.length ≤ fMax m ∧ ∀ f ∈ x.2, f ∈ numL :: ks) ∧ sm.map (·.1) = ns.take c ∧
      forM (nameG 7) (wipeS [7, 9, 10] (seqM (setM 9 (bltM minF (consA (opM ixF (lstM (consA (constM (.int 0)) (consA (constM (.int 0)) (consA (constM (.int 1)) (consA (constM (.int 1)) (consA (constM (.int 2)) (consA (constM (.int 2)) (consA (constM (.int 3)) (consA (constM (.int 4)) nilA))))))))) (callM [true, false] (T n ._law_next) (consA (nameM 0) (consA (constM (.int 8)) nilA)))) (consA (opM ixF (lstM (consA (constM (.int 4)) (consA (constM (.int 2)) nilA))) (bltM intF (consA (opM gtF (nameM 1) (constM (.int 4))) nilA))) nilA))))
    (seqM (setM 10 (c__law_volume_2 (T n)))
    (exprM (mutM appendF 6 (consA (tupM (consA (mutM popAtF 3 (consA (constM (.int 0)) nilA)) (consA (bltM tupleF (consA (nameM 10) nilA)) nilA))) nilA)))))) I e0 = .ok .nx (vE p' m ks (ns.drop c) bk s5 (.own (.lst (sm.map dMake))) .un .un .un) := by
  subst h7
  obtain ⟨e', q, sm, p', hp, hl, hf, hn', rfl⟩ := forM_idx (g := nameG 7) (b := (wipeS [7, 9, 10] (seqM (setM 9 (bltM minF (consA (opM ixF (lstM (consA (constM (.int 0)) (consA (constM (.int 0)) (consA (constM (.int 1)) (consA (constM (.int 1)) (consA (constM (.int 2)) (consA (constM (.int 2)) (consA (constM (.int 3)) (consA (constM (.int 4)) nilA))))))))) (callM [true, false] (T n ._law_next) (consA (nameM 0) (consA (constM (.int 8)) nilA)))) (consA (opM ixF (lstM (consA (constM (.int 4)) (consA (constM (.int 2)) nilA))) (bltM intF (consA (opM gtF (nameM 1) (constM (.int 4))) nilA))) nilA))))
    (seqM (setM 10 (c__law_volume_2 (T n)))
    (exprM (mutM appendF 6 (consA (tupM (consA (mutM popAtF 3 (consA (constM (.int 0)) nilA)) (consA (bltM tupleF (consA (nameM 10) nilA)) nilA))) nilA)))))))
    (fun k e => ∃ (sm : List Mk0) (p' : List D), Pl p' ∧ sm.length = k ∧ (∀ x ∈ sm, x.2.length ≤ fMax m ∧ ∀ f ∈ x.2, f ∈ numL :: ks) ∧ sm.map (·.1) = ns.take k ∧ e = vE p' m ks (ns.drop k) bk s5 (.own (.lst (sm.map dMake))) .un .un .un) e0 hI ⟨[], p, h, rfl, by simp, by simp, rfl⟩ (fun k e hkc ⟨sm, p', hp, hl, hf, hn', he⟩ => by
      subst he
      obtain ⟨i, p1, i1, P1, g1⟩ := t_nextN hn hp (base := 8) (by decide) (by decide)
      obtain ⟨c0, c04, a1⟩ := cnts (i := i) (by omega)
      obtain ⟨c1, hc1, a2⟩ : ∃ c1 : Nat, c1 = fMax m ∧ atI [D.int 4, D.int 2] (if decide (4 < (m : Int)) then 1 else 0) = some (.int (c1 : Int)) := by
        refine ⟨fMax m, rfl, ?_⟩
        unfold fMax
        by_cases z : 4 < m
        · rw [if_pos z, decide_eq_true (show (4 : Int) < (m : Int) by omega)]; rfl
        · rw [if_neg z, decide_eq_false (show ¬ (4 : Int) < (m : Int) by omega)]; rfl
      obtain ⟨cc, hcc, hmin⟩ : ∃ cc : Nat, cc ≤ c1 ∧ minF [.int (c0 : Int), .int (c1 : Int)] = some (.fz (.int (cc : Int))) := by
        rw [minI]
        by_cases z : (c1 : Int) < (c0 : Int)
        · exact ⟨c1, Nat.le_refl _, by rw [if_pos z]⟩
        · exact ⟨c0, by omega, by rw [if_neg z]⟩
      have hcc4 : cc ≤ 4 := by subst hc1; unfold fMax at hcc; split at hcc <;> omega
      obtain ⟨fs, p2, P2, fl, ff, g2⟩ := c_fields hn P1 m ks (ns.drop k) hk hm bk s5 (.own (.lst (sm.map dMake))) (.fz (.int (k : Int))) .un cc (by omega)
      have hkl : k < ns.length := by omega
      have hdrop : ns.drop k = ns[k] :: ns.drop (k + 1) := List.drop_eq_getElem_cons hkl
      have hpop : popAtF [.int 0] ((ns.drop k).map dStr) = some (dStr ns[k], (ns.drop (k + 1)).map dStr) := by rw [hdrop]; rfl
      refine ⟨_, vol_make_walk n p' p1 p2 m i k c0 c1 cc _ (ks.map dStr) _ _ (bk.map dKind) (sm.map dMake) (fs.map dStr) (dStr ns[k]) s5 .un (.int (k : Int)) g1 a1 rfl a2 hmin g2 hpop (by simp; omega), sm ++ [(ns[k], fs)], p2, P2, by simp [hl], ?_, ?_, ?_⟩
      · intro x hx
        rcases List.mem_append.mp hx with z | z
        · exact hf x z
        · simp at z; subst z; exact ⟨by dsimp only; omega, ff⟩
      · rw [List.map_append, hn', List.take_succ_eq_append_getElem hkl]; rfl
      · unfold vE; simp [dMake, dStr])
  exact ⟨sm, p', hp, hl, hf, hn', q⟩
theorem vol_rng_walk (n : Nat) (p p1 : List D) (m i c0 c1 c : Int) (ks : D) (ns bk : List D) (s5 s6 s7 s8 s9 s10 s11 : Sl)
    (h1 : T n ._law_next [.io (.lst p), .fz (.int 8)] = .ret (.fz (.int i)) [.io (.lst p1), .fz (.int 8)])
    (a1 : atI [D.int 1, D.int 2, D.int 2, D.int 3, D.int 3, D.int 2, D.int 4, D.int 6] i = some (.int c0)) (e1 : (ns.length : Int) - m + (bk.length : Int) + 1 = c1) (hc : minF [.int c0, .int c1] = some (.fz (.int c))) :
    consA (bltM minF (consA (opM ixF (lstM (consA (constM (.int 1)) (consA (constM (.int 2)) (consA (constM (.int 2)) (consA (constM (.int 3)) (consA (constM (.int 3)) (consA (constM (.int 2)) (consA (constM (.int 4)) (consA (constM (.int 6)) nilA))))))))) (callM [true, false] (T n ._law_next) (consA (nameM 0) (consA (constM (.int 8)) nilA)))) (consA (opM addF (opM addF (opM subF (bltM lenF (consA (nameM 3) nilA)) (nameM 1)) (bltM lenF (consA (nameM 4) nilA))) (constM (.int 1))) nilA))) nilA
      [.io (.lst p), .fz (.int m), .fz ks, .own (.lst ns), .own (.lst bk), s5, s6, s7, s8, s9, s10, s11] = .ok [.fz (.int c)] [.io (.lst p1), .fz (.int m), .fz ks, .own (.lst ns), .own (.lst bk), s5, s6, s7, s8, s9, s10, s11] := by
  wp_walk using h1, a1, e1, hc
theorem vol_kind_walk (n : Nat) (p p1 : List D) (m : Int) (ks : D) (ns ns' bk sm : List D) (kd : D) (s5 s6 s7 s9 s10 : Sl)
    (h1 : l__law_volume_1 (T n) [.io (.lst p), .fz (.int m), .fz ks, .own (.lst ns), .own (.lst bk), .fz kd, .own (.lst []), .un, .un, .un, .un, .un] = .ok .nx [.io (.lst p1), .fz (.int m), .fz ks, .own (.lst ns'), .own (.lst bk), .fz kd, .own (.lst sm), .un, .un, .un, .un, .un]) (hl : bk.length ≤ 100) :
    forS (nameG 5) (wipeS [5, 6, 7, 9, 10] (seqM (setM 6 (lstM nilA))
    (seqM (wipeS [7, 9, 10] (l__law_volume_1 (T n)))
    (exprM (mutM appendF 4 (consA (tupM (consA (nameM 5) (consA (bltM tupleF (consA (nameM 6) nilA)) nilA))) nilA)))))) kd
      [.io (.lst p), .fz (.int m), .fz ks, .own (.lst ns), .own (.lst bk), s5, s6, .un, .un, .un, .un, .un] = some [.io (.lst p1), .fz (.int m), .fz ks, .own (.lst ns'), .own (.lst (bk ++ [.tup [kd, .tup sm]])), .un, .un, .un, .un, .un, .un, .un] := by
  wp_walk using h1, List.length_nil
theorem vol_kinds {n : Nat} (hn : 1 ≤ n) {p : List D} (h : Pl p) (m : Nat) (ks ns : List (List Nat)) (hk : ks.length = m) (hm : m ≤ 6) (hns : m ≤ ns.length) :
    ∃ (bk : List Kd) (p' : List D), Pl p' ∧ bk.map (·.1) = ks ∧ (∀ k ∈ bk, 1 ≤ k.2.length ∧ k.2.length ≤ 6 ∧ ∀ x ∈ k.2, x.2.length ≤ fMax m ∧ ∀ f ∈ x.2, f ∈ numL :: ks) ∧ (∃ u, (makesB bk).map (·.1) = ns.take u) ∧ ∃ ns', 
      l__law_volume_2 (T n) [.io (.lst p), .fz (.int (m : Int)), .own (.lst (ks.map dStr)), .own (.lst (ns.map dStr)), .own (.lst []), .un, .un, .un, .un, .un, .un, .un] = .ok .nx (vE p' m ks ns' bk .un .un .un .un .un) := by
  unfold l__law_volume_2
  obtain ⟨e', q, bk, p', u, hp, h1, h2, h3, h4, rfl⟩ := forM_all (g := nameG 5) (b := (wipeS [5, 6, 7, 9, 10] (seqM (setM 6 (lstM nilA))
    (seqM (wipeS [7, 9, 10] (l__law_volume_1 (T n)))
    (exprM (mutM appendF 4 (consA (tupM (consA (nameM 5) (consA (bltM tupleF (consA (nameM 6) nilA)) nilA))) nilA)))))))
    (I := iterM (nameM 2)) dStr (fun pre e => ∃ (bk : List Kd) (p' : List D) (u : Nat), Pl p' ∧ bk.map (·.1) = pre ∧ (∀ k ∈ bk, 1 ≤ k.2.length ∧ k.2.length ≤ 6 ∧ ∀ x ∈ k.2, x.2.length ≤ fMax m ∧ ∀ f ∈ x.2, f ∈ numL :: ks) ∧ (makesB bk).map (·.1) = ns.take u ∧ u + m ≤ ns.length + pre.length ∧ e = vE p' m ks (ns.drop u) bk .un .un .un .un .un) ks
    [.io (.lst p), .fz (.int (m : Int)), .own (.lst (ks.map dStr)), .own (.lst (ns.map dStr)), .own (.lst []), .un, .un, .un, .un, .un, .un, .un] (e1 := vE p m ks ns [] .un .un .un .un .un) (by exact rfl) ⟨[], p, 0, h, rfl, by simp, rfl, by simpa using hns, rfl⟩ (fun pre x post e hx ⟨bk, p', u, hp, hb, hf, hn', hu, he⟩ => by
      subst he
      have hlen := congrArg List.length hx
      simp only [List.length_append, List.length_cons] at hlen
      have hbl := congrArg List.length hb
      rw [List.length_map] at hbl
      obtain ⟨i, p1, i1, P1, g1⟩ := t_nextN hn hp (base := 8) (by decide) (by decide)
      obtain ⟨c0, c01, c06, a1⟩ := mins (i := i) (by omega)
      have hdl : ((ns.drop u).map dStr).length = ns.length - u := by simp
      obtain ⟨cc, h1c, hcc, hcl, hmin⟩ : ∃ cc : Nat, 1 ≤ cc ∧ cc ≤ 6 ∧ cc + m ≤ (ns.length - u) + (pre.length + 1) ∧ minF [.int (c0 : Int), .int ((((ns.drop u).map dStr).length : Int) - (m : Int) + ((bk.map dKind).length : Int) + 1)] = some (.fz (.int (cc : Int))) := by
        rw [minI, hdl, List.length_map, hbl]
        by_cases z : (((ns.length - u : Nat)) : Int) - (m : Int) + (pre.length : Int) + 1 < (c0 : Int)
        · exact ⟨ns.length - u + pre.length + 1 - m, by omega, by omega, by omega, by rw [if_pos z]; congr 3; omega⟩
        · exact ⟨c0, c01, c06, by omega, by rw [if_neg z]⟩
      have hR := vol_rng_walk n p' p1 m i c0 _ cc (.lst (ks.map dStr)) ((ns.drop u).map dStr) (bk.map dKind) (.fz (dStr x)) (.own (.lst [])) .un .un .un .un .un g1 a1 rfl hmin
      obtain ⟨sm, p2, P2, sl, sf, sn, g2⟩ := vol_makes (n := n) hn P1 m ks (ns.drop u) hk hm bk (.fz (dStr x)) .un cc (by simp; omega) hcc (rng1_of (by omega) hR) rfl
      have hw := vol_kind_walk n p' p2 m (.lst (ks.map dStr)) ((ns.drop u).map dStr) (((ns.drop u).drop cc).map dStr) (bk.map dKind) (sm.map dMake) (dStr x) .un .un .un .un .un g2 (by simp; omega)
      refine ⟨_, hw, bk ++ [(x, sm)], p2, u + cc, P2, by simp [hb], ?_, ?_, by simp; omega, ?_⟩
      · intro k hk'
        rcases List.mem_append.mp hk' with z | z
        · exact hf k z
        · simp at z; subst z; exact ⟨by dsimp only; omega, by dsimp only; omega, sf⟩
      · have : makesB (bk ++ [(x, sm)]) = makesB bk ++ sm := by simp [makesB]
        rw [this, List.map_append, hn', sn]
        rw [List.take_add]
      · unfold vE; simp [dKind, dStr, List.drop_drop])
  exact ⟨bk, p', hp, h1, h2, ⟨u, h3⟩, _, q⟩
theorem fix_walk (T : Fn → Fun) (a0 a1 s2 s3 s4 s5 s6 s7 s9 s10 s11 : Sl) (w : List Nat) :
    lcW [8] (nameG 8) yesT (opM ixF (lstM (consA (nameM 8) (consA (constM (.str (S [110, 117, 109, 98]))) nilA))) (bltM intF (consA (opM eqOF2 (nameM 8) (constM (.str (S numL)))) nilA))) (dStr w) [a0, a1, s2, s3, s4, s5, s6, s7, .un, s9, s10, s11] = some (dStr (fixN w), [a0, a1, s2, s3, s4, s5, s6, s7, .un, s9, s10, s11]) := by
  unfold dStr fixN numbL
  by_cases h : w = numL
  · have e : decide (w = numL) = true := decide_eq_true h
    rw [if_pos h]
    wp_walk using e
  · have e : decide (w = numL) = false := decide_eq_false h
    rw [if_neg h]
    wp_walk using e
theorem t_volume {n : Nat} (hn : 3 ≤ n) {p : List D} (h : Pl p) : ∃ (b : Book) (p' : List D) (m : Nat), Bk b (fMax m) ∧ b.length = m ∧ m ≤ 5 ∧ (∃ L, ∀ k ∈ b, L ≤ k.1.length ∧ k.1.length ≤ L + 2) ∧ (∃ L, ∀ x ∈ makesB b, L ≤ x.1.length ∧ x.1.length ≤ L + 1) ∧ Pl p' ∧ T n ._law_volume [.io (.lst p)] = .ret (.fz (dBook b)) [.io (.lst p')] := by
  obtain ⟨n, rfl, hk⟩ := up1 hn
  obtain ⟨i, p1, i1, P1, g1⟩ := t_nextN (n := n) (by omega) h (base := 8) (by decide) (by decide)
  obtain ⟨m, m1, m5, am⟩ : ∃ c : Nat, 1 ≤ c ∧ c ≤ 5 ∧ atI [D.int 1, D.int 2, D.int 2, D.int 3, D.int 3, D.int 4, D.int 4, D.int 5] (i : Int) = some (.int (c : Int)) := by
    have : ∀ i : Fin 8, ∃ c : Fin 6, 1 ≤ c.val ∧ [(1 : Int), 2, 2, 3, 3, 4, 4, 5][i.val]? = some (c.val : Int) := by decide
    obtain ⟨c, h1, hc⟩ := this ⟨i, by omega⟩
    refine ⟨c.val, h1, by omega, atN ?_⟩
    have e : [D.int 1, D.int 2, D.int 2, D.int 3, D.int 3, D.int 4, D.int 4, D.int 5] = [(1 : Int), 2, 2, 3, 3, 4, 4, 5].map D.int := rfl
    rw [e, List.getElem?_map, hc]; rfl
  obtain ⟨kn, p2, hkn, P2, g2⟩ := t_calls (n := n) (by omega) P1 m (by omega)
  obtain ⟨ns, p3, hns, P3, g3⟩ := t_calls (n := n) (by omega) P2 26 (by omega)
  have nl := hns.len
  obtain ⟨bk, p4, P4, hb1, hb2, ⟨u, hb3⟩, ns', g4⟩ := vol_kinds (n := n) (by omega) P3 m (kn.map fixN) ns (by rw [List.length_map, hkn.len]) (by omega) (by omega)
  have bl : bk.length = m := by have := congrArg List.length hb1; rw [List.length_map, List.length_map, hkn.len] at this; exact this
  refine ⟨bk, p4, m, ⟨by omega, ?_, fun k hk => (hb2 k hk).1, fun k hk => (hb2 k hk).2.1, ?_, fun k hk x hx => ((hb2 k hk).2.2 x hx).1, fun k hk x hx f hf => by rw [hb1]; exact ((hb2 k hk).2.2 x hx).2 f hf, by rw [hb1]; exact hkn.fix (by omega), by rw [hb3]; exact List.Sublist.nodup (List.take_sublist _ _) (hns.nd (by omega))⟩, bl, m5, ?_, ?_, P4, ?_⟩
  · intro k hk
    have : k.1 ∈ bk.map (·.1) := List.mem_map.mpr ⟨k, hk, rfl⟩
    rw [hb1] at this
    obtain ⟨w, hw, e⟩ := List.mem_map.mp this
    rw [← e]; exact fix_wd (hkn.wd w hw)
  · intro k hk x hx
    have : x.1 ∈ (makesB bk).map (·.1) := List.mem_map.mpr ⟨x, List.mem_flatMap.mpr ⟨k, hk, hx⟩, rfl⟩
    rw [hb3] at this
    exact hns.wd _ (List.mem_of_mem_take this)
  · obtain ⟨L, hL⟩ := hkn.lens
    refine ⟨L, fun k hk => ?_⟩
    have : k.1 ∈ bk.map (·.1) := List.mem_map.mpr ⟨k, hk, rfl⟩
    rw [hb1] at this
    obtain ⟨w, hw, e⟩ := List.mem_map.mp this
    have := hL w hw
    rw [← e]
    unfold fixN numbL
    split
    · rename_i z; subst z; simp only [show numL.length = 3 from rfl] at this; simp; omega
    · omega
  · obtain ⟨L, hL⟩ := hns.lens
    refine ⟨L, fun x hx => ?_⟩
    have : x.1 ∈ (makesB bk).map (·.1) := List.mem_map.mpr ⟨x, hx, rfl⟩
    rw [hb3] at this
    exact hL _ (List.mem_of_mem_take this)
  · have hc : c__law_volume_1 (T n) [.io (.lst p1), .fz (.int (m : Int)), .un, .un, .un, .un, .un, .un, .un, .un, .un, .un] = .ok (.own (.lst ((kn.map fixN).map dStr))) [.io (.lst p2), .fz (.int (m : Int)), .un, .un, .un, .un, .un, .un, .un, .un, .un, .un] := by
      unfold c__law_volume_1
      rw [List.map_map]
      refine lcM_mapW dStr (dStr ∘ fixN) kn (e1 := [.io (.lst p2), .fz (.int (m : Int)), .un, .un, .un, .un, .un, .un, .un, .un, .un, .un]) ?_ (by rw [hkn.len]; omega) (fun w _ => ?_)
      · unfold iterM; wp_walk using g2
      · exact fix_walk (T n) _ _ _ _ _ _ _ _ _ _ _ w
    have hw : ∀ (m i : Int) (ks ns bk ns' : List D) (hm : atI [D.int 1, D.int 2, D.int 2, D.int 3, D.int 3, D.int 4, D.int 4, D.int 5] i = some (.int m))
        (g1 : T n ._law_next [.io (.lst p), .fz (.int 8)] = .ret (.fz (.int i)) [.io (.lst p1), .fz (.int 8)])
        (hc : c__law_volume_1 (T n) [.io (.lst p1), .fz (.int m), .un, .un, .un, .un, .un, .un, .un, .un, .un, .un] = .ok (.own (.lst ks)) [.io (.lst p2), .fz (.int m), .un, .un, .un, .un, .un, .un, .un, .un, .un, .un])
        (g3 : T n ._law_calls [.io (.lst p2), .fz (.int 26)] = .ret (.own (.lst ns)) [.io (.lst p3), .fz (.int 26)])
        (g4 : l__law_volume_2 (T n) [.io (.lst p3), .fz (.int m), .own (.lst ks), .own (.lst ns), .own (.lst []), .un, .un, .un, .un, .un, .un, .un] = .ok .nx [.io (.lst p4), .fz (.int m), .fz (.lst ks), .own (.lst ns'), .own (.lst bk), .un, .un, .un, .un, .un, .un, .un]),
        T (n + 1) ._law_volume [.io (.lst p)] = .ret (.fz (.tup bk)) [.io (.lst p4)] := by
      intro m i ks ns bk ns' hm g1 hc g3 g4
      show fnRun 12 (b__law_volume (T n)) _ = _
      unfold b__law_volume
      wp_walk using g1, hm, hc, g3, g4, List.length_nil
    exact hw m i _ _ _ _ am g1 hc g3 g4

end Sc.Law
end
section
set_option Elab.async false
set_option linter.all false
set_option autoImplicit false
set_option maxRecDepth 100000
set_option maxHeartbeats 2000000
open PySem L2 Sc
namespace Sc.Law
local macro_rules | `(tactic| wp_walk using $ts,*) => `(tactic| simp (config := { decide := false }) (disch := (with_reducible refine Sz.mk ?_; first | assumption | omega | ((try simp only [List.length_append, List.length_cons, List.length_nil, List.length_map, List.length_replicate, O.toD, S_len]); omega))) only [fnRun, seqM, ifS, orT, andT, notT, andM, orM, notM, ifM, testM, viewB, view, M.bind, M.pure, M.stuck, nameM, constM, bltM, viewAll, consA, nilA, retM, opM, negM, chainM, isiM, tyName, strMM, tupM, lstM, freezeAll, freeze, setM, exprM, callM, callF, prep, lend, backM, wbAll, Rt.rv, iosOf, Arg.sl, List.map_cons, List.map_nil, List.length_cons, List.length_nil, Nat.zero_add, Nat.reduceAdd, Nat.reduceSub, Nat.reduceLT, Nat.reduceEqDiff, List.replicate_succ, List.replicate_zero, List.cons_append, List.nil_append, List.getElem?_cons_zero, List.getElem?_cons_succ, List.set_cons_zero, List.set_cons_succ, methM, isObj, fldM, dget, putFM, objAt, putD, slOf, mutM, lstAt, raiseM, skipM, O.toD, leF, ltF, gtF, geF, subF, iiF, if_true, if_false, Bool.false_eq_true, len_l, len_t, len_d, len_scr, len_s,  Bool.not_true, Bool.not_false, decide_true, decide_false, kit_str_str, kit_str_tuple, kit_str_int, kit_str_bool, kit_int_str, kit_int_int, kit_int_bool, kit_int_tuple, kit_bool_int, kit_bool_bool, kit_bool_tuple, kit_bool_str, kit_tuple_tuple, kit_tuple_str, kit_tuple_int, kit_tuple_bool, kit_none_tuple, kit_none_str, kit_none_int, kit_none_bool, kit_list_tuple, kit_list_str, kit_list_int, nameG, tupGn, consG, nilG, Nat.lt_add_one, ixL, ixT, ixSc, ixAz, ixSS, appendF, Option.map_some, Option.map_none, wipeE, restE, forR, lcW, lcF, lcS, forS, forT, wipeS, extendF, yesT, int_i, int_b, putM, dicAt, putLM, rng1M, addF_ll, addF_ii, addF_tt, tupleF, sliceM, intM, dOpt, eqO_i, neO_i, eqO_S, neO_S, eqO_b, list2_l, list2_t, list2_d, inOF, Bool.false_xor, Bool.true_xor, Bool.true_and, Bool.and_true, Bool.false_and, Bool.and_false, Bool.true_or, Bool.false_or, Bool.or_true, Bool.or_false, ifLt, ifLe, at0, at1, at2, at3, ix0, ix1, ix2, ix3, ne_ss, ne_ps, kn_1, kn_2, kn_3, kn_4, kn_5, kn_6, kn_7, S_cps, mk_S, inF_sign, pow18, pow60, pow30, pow12, pow10, sl_tail, add_md, add_dmd, addSS, modZ, fdivZ, mulZR, mulZL, mulZ_l, S_len, $[$ts:term],*])
/-! the law's own comparison, of a thing with itself -/
mutual
def okD : D → Bool
  | .int _ => true
  | .str _ => true
  | .non => true
  | .tup ds => decide (ds.length ≤ 10000000) && okDs ds
  | _ => false
def okDs : List D → Bool
  | [] => true
  | d :: ds => okD d && okDs ds
end
mutual
def dpD : D → Nat
  | .tup ds => dpDs ds + 1
  | _ => 0
def dpDs : List D → Nat
  | [] => 0
  | d :: ds => max (dpD d) (dpDs ds)
end
theorem okDs_mem {ds : List D} (h : okDs ds = true) : ∀ d ∈ ds, okD d = true := by
  induction ds with
  | nil => simp
  | cons a ds ih =>
    simp only [okDs, Bool.and_eq_true] at h
    intro d hd
    rcases List.mem_cons.mp hd with rfl | q
    · exact h.1
    · exact ih h.2 d q
theorem dpDs_mem {ds : List D} : ∀ d ∈ ds, dpD d ≤ dpDs ds := by
  induction ds with
  | nil => simp
  | cons a ds ih =>
    intro d hd
    simp only [dpDs]
    rcases List.mem_cons.mp hd with rfl | q
    · omega
    · have := ih d q; omega
theorem pairs_self (ds : List D) : pairsD ds ds = ds.map fun d => .tup [d, d] := by
  unfold pairsD
  induction ds with
  | nil => rfl
  | cons a ds ih => simp only [List.zip_cons_cons, List.map_cons, ih]
theorem boolsT {α : Type} (l : List α) : boolsOf (l.map fun _ => D.bl true) = some (l.map fun _ => true) := boolsOf_true l
theorem allT {α : Type} (l : List α) : allF [.lst (l.map fun _ => D.bl true)] = some (.fz (.bl true)) := by
  show (boolsOf (l.map fun _ => D.bl true)).map _ = _
  rw [boolsOf_true]
  simp
theorem t_alike : ∀ (k n : Nat) (d : D), dpD d ≤ k → okD d = true → k + 1 ≤ n → T n ._law_alike [.fz d, .fz d] = .ret (.fz (.bl true)) [.fz d, .fz d] := by
  intro k
  induction k with
  | zero =>
    intro n d hd ho hn
    obtain ⟨n, rfl, hk⟩ := up1 hn
    show fnRun 4 (b__law_alike (T n)) _ = _
    unfold b__law_alike
    cases d with
    | int i => wp_walk using decide_true
    | str x => obtain ⟨l, rfl⟩ : ∃ l, x = S l := ⟨_, (S_of x).symm⟩; wp_walk using decide_true
    | non => wp_walk using isNF
    | tup ds => simp [dpD] at hd
    | bl b => simp [okD] at ho
    | lst ds => simp [okD] at ho
    | dic ks ds => simp [okD] at ho
    | obj C ks ds => simp [okD] at ho
    | scr ns => simp [okD] at ho
  | succ k ih =>
    intro n d hd ho hn
    obtain ⟨n, rfl, hk⟩ := up1 hn
    show fnRun 4 (b__law_alike (T n)) _ = _
    unfold b__law_alike
    cases d with
    | int i => wp_walk using decide_true
    | str x => obtain ⟨l, rfl⟩ : ∃ l, x = S l := ⟨_, (S_of x).symm⟩; wp_walk using decide_true
    | non => wp_walk using isNF
    | tup ds =>
      simp only [okD, Bool.and_eq_true, decide_eq_true_eq] at ho
      simp only [dpD] at hd
      have hc : c__law_alike_1 (T n) [.fz (.tup ds), .fz (.tup ds), .un, .un] = .ok (.own (.lst (ds.map fun _ => .bl true))) [.fz (.tup ds), .fz (.tup ds), .un, .un] := by
        unfold c__law_alike_1
        refine lcM_mapW (fun d => .tup [d, d]) (fun _ => .bl true) ds (e1 := [.fz (.tup ds), .fz (.tup ds), .un, .un]) ?_ (by omega) (fun x hx => ?_)
        · unfold zipM; wp_walk using pairs_self
        · have h := ih n x (by have := dpDs_mem x hx; omega) (okDs_mem ho.2 x hx) hk
          wp_walk using h
      have ha := allT ds
      wp_walk using hc, ha, decide_true
    | bl b => simp [okD] at ho
    | lst ds => simp [okD] at ho
    | dic ks ds => simp [okD] at ho
    | obj C ks ds => simp [okD] at ho
    | scr ns => simp [okD] at ho

end Sc.Law
end
section
set_option Elab.async false
set_option linter.all false
set_option autoImplicit false
set_option maxRecDepth 100000
set_option maxHeartbeats 2000000
open PySem L2 Sc
namespace Sc.Law
local macro_rules | `(tactic| wp_walk using $ts,*) => `(tactic| simp (config := { decide := false }) (disch := (with_reducible refine Sz.mk ?_; first | assumption | omega | ((try simp only [List.length_append, List.length_cons, List.length_nil, List.length_map, List.length_replicate, O.toD, S_len]); omega))) only [fnRun, seqM, ifS, orT, andT, notT, andM, orM, notM, ifM, testM, viewB, view, M.bind, M.pure, M.stuck, nameM, constM, bltM, viewAll, consA, nilA, retM, opM, negM, chainM, isiM, tyName, strMM, tupM, lstM, freezeAll, freeze, setM, exprM, callM, callF, prep, lend, backM, wbAll, Rt.rv, iosOf, Arg.sl, List.map_cons, List.map_nil, List.length_cons, List.length_nil, Nat.zero_add, Nat.reduceAdd, Nat.reduceSub, Nat.reduceLT, Nat.reduceEqDiff, List.replicate_succ, List.replicate_zero, List.cons_append, List.nil_append, List.getElem?_cons_zero, List.getElem?_cons_succ, List.set_cons_zero, List.set_cons_succ, methM, isObj, fldM, dget, putFM, objAt, putD, slOf, mutM, lstAt, raiseM, skipM, O.toD, leF, ltF, gtF, geF, subF, iiF, if_true, if_false, Bool.false_eq_true, len_l, len_t, len_d, len_scr, len_s,  Bool.not_true, Bool.not_false, decide_true, decide_false, kit_str_str, kit_str_tuple, kit_str_int, kit_str_bool, kit_int_str, kit_int_int, kit_int_bool, kit_int_tuple, kit_bool_int, kit_bool_bool, kit_bool_tuple, kit_bool_str, kit_tuple_tuple, kit_tuple_str, kit_tuple_int, kit_tuple_bool, kit_none_tuple, kit_none_str, kit_none_int, kit_none_bool, kit_list_tuple, kit_list_str, kit_list_int, nameG, tupGn, consG, nilG, Nat.lt_add_one, ixL, ixT, ixSc, ixAz, ixSS, appendF, Option.map_some, Option.map_none, wipeE, restE, forR, lcW, lcF, lcS, forS, forT, wipeS, extendF, yesT, int_i, int_b, putM, dicAt, putLM, rng1M, addF_ll, addF_ii, addF_tt, tupleF, sliceM, intM, dOpt, eqO_i, neO_i, eqO_S, neO_S, eqO_b, list2_l, list2_t, list2_d, inOF, Bool.false_xor, Bool.true_xor, Bool.true_and, Bool.and_true, Bool.false_and, Bool.and_false, Bool.true_or, Bool.false_or, Bool.or_true, Bool.or_false, ifLt, ifLe, at0, at1, at2, at3, ix0, ix1, ix2, ix3, ne_ss, ne_ps, kn_1, kn_2, kn_3, kn_4, kn_5, kn_6, kn_7, S_cps, mk_S, inF_sign, pow18, pow60, pow30, pow12, pow10, sl_tail, add_md, add_dmd, addSS, modZ, fdivZ, mulZR, mulZL, mulZ_l, S_len, $[$ts:term],*])
theorem t_lbrack_l {n : Nat} (hn : 1 ≤ n) (nm : List Nat) (ws : List (List Nat)) (h : (nm ++ brT ws).length ≤ 10000000) :
    T n ._law_bracketed [.fz (.str (S nm)), .fz (.lst (ws.map dStr))] = .ret (.fz (.str (S (nm ++ brT ws)))) [.fz (.str (S nm)), .fz (.lst (ws.map dStr))] := by
  obtain ⟨n, rfl, hk⟩ := up1 hn
  show fnRun 2 (b__law_bracketed (T n)) _ = _
  unfold b__law_bracketed
  cases ws with
  | nil => wp_walk using decide_true, show brT [] = [] from rfl, List.append_nil, show decide (((0 : Nat) : Int) = 0) = true from rfl
  | cons w ws =>
    have hb := brT_len (w :: ws)
    simp only [List.length_append] at h
    have j := join_l (sep := [32]) (ls := w :: ws) (by omega) (by decide)
    rw [brT_cons]
    have z : decide ((((w :: ws).map dStr).length : Int) = 0) = false := decide_eq_false (by simp; omega)
    have hl : nm.length + 1 + (joinT [32] (w :: ws)).length + 1 ≤ 16000000 := by omega
    generalize (w :: ws).map dStr = ds at *
    generalize joinT [32] (w :: ws) = jt at *
    wp_walk using z, j
theorem t_lbrack_t {n : Nat} (hn : 1 ≤ n) (nm : List Nat) (ws : List (List Nat)) (h : (nm ++ brT ws).length ≤ 10000000) :
    T n ._law_bracketed [.fz (.str (S nm)), .fz (.tup (ws.map dStr))] = .ret (.fz (.str (S (nm ++ brT ws)))) [.fz (.str (S nm)), .fz (.tup (ws.map dStr))] := by
  obtain ⟨n, rfl, hk⟩ := up1 hn
  show fnRun 2 (b__law_bracketed (T n)) _ = _
  unfold b__law_bracketed
  cases ws with
  | nil => wp_walk using decide_true, show brT [] = [] from rfl, List.append_nil, show decide (((0 : Nat) : Int) = 0) = true from rfl
  | cons w ws =>
    have hb := brT_len (w :: ws)
    simp only [List.length_append] at h
    have j := join_t (sep := [32]) (ls := w :: ws) (by omega) (by decide)
    rw [brT_cons]
    have z : decide ((((w :: ws).map dStr).length : Int) = 0) = false := decide_eq_false (by simp; omega)
    have hl : nm.length + 1 + (joinT [32] (w :: ws)).length + 1 ≤ 16000000 := by omega
    generalize (w :: ws).map dStr = ds at *
    generalize joinT [32] (w :: ws) = jt at *
    wp_walk using z, j

end Sc.Law
end
section
set_option Elab.async false
set_option linter.all false
set_option autoImplicit false
set_option maxRecDepth 100000
set_option maxHeartbeats 2000000
open PySem L2 Sc
namespace Sc.Law
local macro_rules | `(tactic| wp_walk using $ts,*) => `(tactic| simp (config := { decide := false }) (disch := (with_reducible refine Sz.mk ?_; first | assumption | omega | ((try simp only [List.length_append, List.length_cons, List.length_nil, List.length_map, List.length_replicate, O.toD, S_len]); omega))) only [fnRun, seqM, ifS, orT, andT, notT, andM, orM, notM, ifM, testM, viewB, view, M.bind, M.pure, M.stuck, nameM, constM, bltM, viewAll, consA, nilA, retM, opM, negM, chainM, isiM, tyName, strMM, tupM, lstM, freezeAll, freeze, setM, exprM, callM, callF, prep, lend, backM, wbAll, Rt.rv, iosOf, Arg.sl, List.map_cons, List.map_nil, List.length_cons, List.length_nil, Nat.zero_add, Nat.reduceAdd, Nat.reduceSub, Nat.reduceLT, Nat.reduceEqDiff, List.replicate_succ, List.replicate_zero, List.cons_append, List.nil_append, List.getElem?_cons_zero, List.getElem?_cons_succ, List.set_cons_zero, List.set_cons_succ, methM, isObj, fldM, dget, putFM, objAt, putD, slOf, mutM, lstAt, raiseM, skipM, O.toD, leF, ltF, gtF, geF, subF, iiF, if_true, if_false, Bool.false_eq_true, len_l, len_t, len_d, len_scr, len_s,  Bool.not_true, Bool.not_false, decide_true, decide_false, kit_str_str, kit_str_tuple, kit_str_int, kit_str_bool, kit_int_str, kit_int_int, kit_int_bool, kit_int_tuple, kit_bool_int, kit_bool_bool, kit_bool_tuple, kit_bool_str, kit_tuple_tuple, kit_tuple_str, kit_tuple_int, kit_tuple_bool, kit_none_tuple, kit_none_str, kit_none_int, kit_none_bool, kit_list_tuple, kit_list_str, kit_list_int, nameG, tupGn, consG, nilG, Nat.lt_add_one, ixL, ixT, ixSc, ixAz, ixSS, appendF, Option.map_some, Option.map_none, wipeE, restE, forR, lcW, lcF, lcS, forS, forT, wipeS, extendF, yesT, int_i, int_b, putM, dicAt, putLM, rng1M, addF_ll, addF_ii, addF_tt, tupleF, sliceM, intM, dOpt, eqO_i, neO_i, eqO_S, neO_S, eqO_b, list2_l, list2_t, list2_d, inOF, Bool.false_xor, Bool.true_xor, Bool.true_and, Bool.and_true, Bool.false_and, Bool.and_false, Bool.true_or, Bool.false_or, Bool.or_true, Bool.or_false, ifLt, ifLe, at0, at1, at2, at3, ix0, ix1, ix2, ix3, ne_ss, ne_ps, kn_1, kn_2, kn_3, kn_4, kn_5, kn_6, kn_7, S_cps, mk_S, inF_sign, pow18, pow60, pow30, pow12, pow10, sl_tail, add_md, add_dmd, addSS, modZ, fdivZ, mulZR, mulZL, mulZ_l, S_len, $[$ts:term],*])
theorem t_value_text : ∀ (k n : Nat) (v : Val), dpV v ≤ k → small v → (vT v).length ≤ 10000000 → k + 2 ≤ n → T n ._law_value_text [.fz (dVal v)] = .ret (.fz (.str (S (vT v)))) [.fz (dVal v)] := by
  intro k
  induction k with
  | zero =>
    intro n v hv hs hl hn
    obtain ⟨n, rfl, hk⟩ := up1 hn
    show fnRun 2 (b__law_value_text (T n)) _ = _
    unfold b__law_value_text
    cases v with
    | num i =>
      have h1 := str_it hs
      unfold dVal vT
      wp_walk using h1
    | mk m ps => simp [dpV] at hv
  | succ k ih =>
    intro n v hv hs hl hn
    obtain ⟨n, rfl, hk⟩ := up1 hn
    show fnRun 2 (b__law_value_text (T n)) _ = _
    unfold b__law_value_text
    cases v with
    | num i =>
      have h1 := str_it hs
      unfold dVal vT
      wp_walk using h1
    | mk m ps =>
      simp only [dpV, small, vT] at hv hs hl
      have hb := brT_len (vTs ps)
      have hc := join_cnt (ls := vTs ps)
      simp only [List.length_append] at hl
      have hlen : ps.length ≤ 10000001 := by have := congrArg List.length (vTs_map ps); simp at this; omega
      have h2 := t_lbrack_l (n := n) (by omega) m (vTs ps) (by simp only [List.length_append]; omega)
      have hcc : c__law_value_text_1 (T n) [.fz (.tup (.str (S m) :: dVals ps)), .un] = .ok (.own (.lst ((vTs ps).map dStr))) [.fz (.tup (.str (S m) :: dVals ps)), .un] := by
        unfold c__law_value_text_1
        rw [vTs_map, List.map_map]
        refine lcM_mapW dVal (dStr ∘ vT) ps (e1 := [.fz (.tup (.str (S m) :: dVals ps)), .un]) ?_ (by omega) (fun x hx => ?_)
        · rw [← dVals_map]
          unfold iterM
          wp_walk using sl_tail
        · have hm : (vT x).length ≤ (joinT [32] (vTs ps)).length := join_mem _ (by rw [vTs_map]; exact List.mem_map.mpr ⟨x, hx, rfl⟩)
          have h := ih n x (by have := dpVs_mem x hx; omega) (smalls_mem hs x hx) (by omega) hk
          unfold Function.comp dStr
          wp_walk using h
      simp only [dVal, vT]
      wp_walk using hcc, h2

end Sc.Law
end
section
set_option Elab.async false
set_option linter.all false
set_option autoImplicit false
set_option maxRecDepth 100000
set_option maxHeartbeats 2000000
open PySem L2 Sc
namespace Sc.Law
local macro_rules | `(tactic| wp_walk using $ts,*) => `(tactic| simp (config := { decide := false }) (disch := (with_reducible refine Sz.mk ?_; first | assumption | omega | ((try simp only [List.length_append, List.length_cons, List.length_nil, List.length_map, List.length_replicate, O.toD, S_len]); omega))) only [fnRun, seqM, ifS, orT, andT, notT, andM, orM, notM, ifM, testM, viewB, view, M.bind, M.pure, M.stuck, nameM, constM, bltM, viewAll, consA, nilA, retM, opM, negM, chainM, isiM, tyName, strMM, tupM, lstM, freezeAll, freeze, setM, exprM, callM, callF, prep, lend, backM, wbAll, Rt.rv, iosOf, Arg.sl, List.map_cons, List.map_nil, List.length_cons, List.length_nil, Nat.zero_add, Nat.reduceAdd, Nat.reduceSub, Nat.reduceLT, Nat.reduceEqDiff, List.replicate_succ, List.replicate_zero, List.cons_append, List.nil_append, List.getElem?_cons_zero, List.getElem?_cons_succ, List.set_cons_zero, List.set_cons_succ, methM, isObj, fldM, dget, putFM, objAt, putD, slOf, mutM, lstAt, raiseM, skipM, O.toD, leF, ltF, gtF, geF, subF, iiF, if_true, if_false, Bool.false_eq_true, len_l, len_t, len_d, len_scr, len_s,  Bool.not_true, Bool.not_false, decide_true, decide_false, kit_str_str, kit_str_tuple, kit_str_int, kit_str_bool, kit_int_str, kit_int_int, kit_int_bool, kit_int_tuple, kit_bool_int, kit_bool_bool, kit_bool_tuple, kit_bool_str, kit_tuple_tuple, kit_tuple_str, kit_tuple_int, kit_tuple_bool, kit_none_tuple, kit_none_str, kit_none_int, kit_none_bool, kit_list_tuple, kit_list_str, kit_list_int, nameG, tupGn, consG, nilG, Nat.lt_add_one, ixL, ixT, ixSc, ixAz, ixSS, appendF, Option.map_some, Option.map_none, wipeE, restE, forR, lcW, lcF, lcS, forS, forT, wipeS, extendF, yesT, int_i, int_b, putM, dicAt, putLM, rng1M, addF_ll, addF_ii, addF_tt, tupleF, sliceM, intM, dOpt, eqO_i, neO_i, eqO_S, neO_S, eqO_b, list2_l, list2_t, list2_d, inOF, Bool.false_xor, Bool.true_xor, Bool.true_and, Bool.and_true, Bool.false_and, Bool.and_false, Bool.true_or, Bool.false_or, Bool.or_true, Bool.or_false, ifLt, ifLe, at0, at1, at2, at3, ix0, ix1, ix2, ix3, ne_ss, ne_ps, kn_1, kn_2, kn_3, kn_4, kn_5, kn_6, kn_7, S_cps, mk_S, inF_sign, pow18, pow60, pow30, pow12, pow10, sl_tail, add_md, add_dmd, addSS, modZ, fdivZ, mulZR, mulZL, mulZ_l, S_len, $[$ts:term],*])
/-! the law -/
theorem chV_facts {b : Book} {k e m : List Nat} {F : Nat} (B : Bk (b ++ [chK k e m]) F) : ∀ j : Nat, j ≤ 1000 → okV (chV e m j) ∧ isV (b ++ [chK k e m]) k (chV e m j) = true ∧ dpV (chV e m j) ≤ j + 1 ∧ (vT (chV e m j)).length ≤ 40 * (j + 1) := by
  have hk : chK k e m ∈ b ++ [chK k e m] := by simp
  have we : Wd e := B.mw _ hk (e, []) (by simp [chK])
  have wm : Wd m := B.mw _ hk (m, [numL, k]) (by simp [chK])
  have hkn : k ≠ numL := by
    have := (List.nodup_cons.mp B.kn).1
    intro z; exact this (List.mem_map.mpr ⟨_, hk, z⟩)
  have ha : allMk (b ++ [chK k e m]) k = [(e, []), (m, [numL, k])] := allMk_of (List.nodup_cons.mp B.kn).2 hk
  have hme : e ≠ m := by
    have := mk_nd B.mn hk
    simp [chK] at this; exact this
  have e0 : decide (k = numL) = false := decide_eq_false hkn
  have ne : ∀ {w : List Nat}, Wd w → w ≠ [] := fun hw z => by have := hw.one; rw [z] at this; simp at this
  intro j
  induction j with
  | zero =>
    intro _
    have := we.eight
    refine ⟨⟨ne we, fun c hc => az_mem.mpr (we.az c hc), trivial⟩, ?_, by simp [chV, dpV, dpVs], ?_⟩
    · simp [chV, isV, e0, ha, isVs]
    · simp [chV, vT, vTs, brT]; omega
  | succ j ih =>
    intro hj
    obtain ⟨h1, h2, h3, h4⟩ := ih (by omega)
    have hi : ((j : Int) - 3).natAbs < 10 ^ 4 := by omega
    have hil : (itL ((j : Int) - 3)).length ≤ 5 := by
      by_cases z : 0 ≤ (j : Int) - 3
      · rw [itL_pos z]
        have : (TL.numL ((j : Int) - 3).toNat).length ≤ 4 := TL.numL_len (by decide) (by omega)
        omega
      · rw [itL_ng (by omega)]
        have : (TL.numL ((j : Int) - 3).natAbs).length ≤ 4 := TL.numL_len (by decide) hi
        simp only [List.length_cons]; omega
    have := wm.eight
    refine ⟨⟨ne wm, fun c hc => az_mem.mpr (wm.az c hc), ⟨?_, h1, trivial⟩⟩, ?_, ?_, ?_⟩
    · exact Nat.lt_trans hi (by decide)
    · have e1 : decide (e = m) = false := decide_eq_false hme
      simp only [chV, isV, e0, ha, List.find?_cons, e1, decide_true, isVs, h2]
      rfl
    · simp only [chV, dpV, dpVs]; omega
    · have := brT_sum [vT (chV e m j)] (itL ((j : Int) - 3))
      simp only [chV, vT, vTs, List.length_append, this, List.map_cons, List.map_nil, List.sum_cons, List.sum_nil]; omega
mutual
theorem okD_val : ∀ v : Val, (∀ n : Nat, dpV v ≤ n → (vT v).length ≤ 1000000 → okD (dVal v) = true)
  | .num i, n, _, _ => rfl
  | .mk m ps, n, hd, hl => by
    have h1 := join_cnt (ls := vTs ps)
    have h2 := brT_len (vTs ps)
    have h3 : (vTs ps).length = ps.length := by rw [vTs_map, List.length_map]
    simp only [vT, List.length_append] at hl
    simp only [dVal, okD, okDs, Bool.and_eq_true, decide_eq_true_eq, true_and, List.length_cons, dVals_map, List.length_map]
    refine ⟨by omega, ?_⟩
    rw [← dVals_map]
    exact okD_vals ps fun v hv => by
      have : (vT v).length ≤ (joinT [32] (vTs ps)).length := join_mem _ (by rw [vTs_map]; exact List.mem_map.mpr ⟨v, hv, rfl⟩)
      omega
theorem okD_vals : ∀ vs : List Val, (∀ v ∈ vs, (vT v).length ≤ 1000000) → okDs (dVals vs) = true
  | [], _ => rfl
  | v :: vs, h => by
    simp only [dVals, okDs, Bool.and_eq_true]
    exact ⟨okD_val v (dpV v) (Nat.le_refl _) (h v (by simp)), okD_vals vs fun u hu => h u (by simp [hu])⟩
end
mutual
theorem dpD_val : ∀ v : Val, dpD (dVal v) ≤ dpV v
  | .num i => by simp [dVal, dpD, dpV]
  | .mk m ps => by
    have := dpD_vals ps
    simp only [dVal, dpD, dpDs, dpV]; omega
theorem dpD_vals : ∀ vs : List Val, dpDs (dVals vs) ≤ dpVs vs
  | [] => by simp [dVals, dpDs, dpVs]
  | v :: vs => by
    have h1 := dpD_val v
    have h2 := dpD_vals vs
    simp only [dVals, dpDs, dpVs]; omega
end
theorem alike_val {n : Nat} (hn : 40 ≤ n) {v : Val} (hd : dpV v ≤ 35) (hl : (vT v).length ≤ 1000000) : T n ._law_alike [.fz (dVal v), .fz (dVal v)] = .ret (.fz (.bl true)) [.fz (dVal v), .fz (dVal v)] :=
  t_alike 35 n _ (by have := dpD_val v; omega) (okD_val v _ (Nat.le_refl _) hl) (by omega)
theorem law1_step (n : Nat) (s0 s2 s3 s4 s7 s9 s10 s11 : Sl) (bk kd v tx d : D)
    (h1 : T n .read_value [.fz bk, .fz kd, .fz tx] = .ret (.fz v) [.fz bk, .fz kd, .fz tx]) (h2 : T n ._law_alike [.fz v, .fz v] = .ret (.fz (.bl true)) [.fz v, .fz v]) :
    forS (nameG 9) (wipeS [9] (ifS (notT (testM (callM [false, false] (T n ._law_alike) (consA (callM [false, false, false] (T n .read_value) (consA (nameM 1) (consA (nameM 5) (consA (nameM 8) nilA)))) (consA (nameM 6) nilA))))) (retM (constM (.bl false))) skipM)) d
      [s0, .fz bk, s2, s3, s4, .fz kd, .fz v, s7, .fz tx, s9, s10, s11] = some [s0, .fz bk, s2, s3, s4, .fz kd, .fz v, s7, .fz tx, .un, s10, s11] := by
  wp_walk using h1, h2
theorem law1 (n : Nat) (s0 s2 s3 s4 s7 s10 s11 : Sl) (bk kd v tx : D)
    (h1 : T n .read_value [.fz bk, .fz kd, .fz tx] = .ret (.fz v) [.fz bk, .fz kd, .fz tx]) (h2 : T n ._law_alike [.fz v, .fz v] = .ret (.fz (.bl true)) [.fz v, .fz v]) :
    l_law_1 (T n) [s0, .fz bk, s2, s3, s4, .fz kd, .fz v, s7, .fz tx, .un, s10, s11] = .ok .nx [s0, .fz bk, s2, s3, s4, .fz kd, .fz v, s7, .fz tx, .un, s10, s11] := by
  unfold l_law_1
  obtain ⟨e', q, rfl⟩ := forM_idx (g := nameG 9) (b := (wipeS [9] (ifS (notT (testM (callM [false, false] (T n ._law_alike) (consA (callM [false, false, false] (T n .read_value) (consA (nameM 1) (consA (nameM 5) (consA (nameM 8) nilA)))) (consA (nameM 6) nilA))))) (retM (constM (.bl false))) skipM))) (I := rng1M (consA (constM (.int 2)) nilA)) (m := 2)
    (fun _ e => e = [s0, .fz bk, s2, s3, s4, .fz kd, .fz v, s7, .fz tx, .un, s10, s11]) [s0, .fz bk, s2, s3, s4, .fz kd, .fz v, s7, .fz tx, .un, s10, s11] (rng1_of (by omega) (by exact rfl)) rfl (fun k e hk he => by
      subst he
      exact ⟨_, law1_step n s0 s2 s3 s4 s7 .un s10 s11 bk kd v tx (.int (k : Int)) h1 h2, rfl⟩)
  exact q
theorem law2_step (n : Nat) (s0 s2 s3 s4 s5 s6 s7 s8 s9 s10 s11 : Sl) (bk : D) (g : Int) (tx : D)
    (h0 : strF [.int g] = some (.fz tx)) (h1 : T n .read_value [.fz bk, .fz (.str (S numL)), .fz tx] = .ret (.fz (.int g)) [.fz bk, .fz (.str (S numL)), .fz tx]) (h2 : T n ._law_alike [.fz (.int g), .fz (.int g)] = .ret (.fz (.bl true)) [.fz (.int g), .fz (.int g)]) :
    forT (nameG 11) (wipeS [11] (ifS (notT (testM (callM [false, false] (T n ._law_alike) (consA (callM [false, false, false] (T n .read_value) (consA (nameM 1) (consA (constM (.str (S numL))) (consA (bltM strF (consA (nameM 11) nilA)) nilA)))) (consA (nameM 11) nilA))))) (retM (constM (.bl false))) skipM)) (.int g)
      [s0, .fz bk, s2, s3, s4, s5, s6, s7, s8, s9, s10, s11] = .ok .nx [s0, .fz bk, s2, s3, s4, s5, s6, s7, s8, s9, s10, .un] := by
  wp_walk using h0, h1, h2
theorem law2 (n : Nat) (s0 s2 s3 s4 s5 s6 s7 s8 s9 : Sl) (bk : D) (g : Int) (tx : Int → D)
    (h0 : ∀ i, i = g ∨ i = -g → strF [.int i] = some (.fz (tx i)) ∧ T n .read_value [.fz bk, .fz (.str (S numL)), .fz (tx i)] = .ret (.fz (.int i)) [.fz bk, .fz (.str (S numL)), .fz (tx i)] ∧ T n ._law_alike [.fz (.int i), .fz (.int i)] = .ret (.fz (.bl true)) [.fz (.int i), .fz (.int i)]) :
    l_law_2 (T n) [s0, .fz bk, s2, s3, s4, s5, s6, s7, s8, s9, .fz (.int g), .un] = .ok .nx [s0, .fz bk, s2, s3, s4, s5, s6, s7, s8, s9, .fz (.int g), .un] := by
  unfold l_law_2
  rw [forM_eq (ds := [.int g, .int (-g)]) (e1 := [s0, .fz bk, s2, s3, s4, s5, s6, s7, s8, s9, .fz (.int g), .un]) (by unfold iterM; wp_walk using List.length_nil)]
  obtain ⟨a1, a2, a3⟩ := h0 g (.inl rfl)
  obtain ⟨b1, b2, b3⟩ := h0 (-g) (.inr rfl)
  rw [forL_cons (law2_step n s0 s2 s3 s4 s5 s6 s7 s8 s9 (.fz (.int g)) .un bk g _ a1 a2 a3), forL_cons (law2_step n s0 s2 s3 s4 s5 s6 s7 s8 s9 (.fz (.int g)) .un bk (-g) _ b1 b2 b3)]
  rfl

end Sc.Law
end
section
set_option Elab.async false
set_option linter.all false
set_option autoImplicit false
set_option maxRecDepth 100000
set_option maxHeartbeats 2000000
open PySem L2 Sc
namespace Sc.Law
local macro_rules | `(tactic| wp_walk using $ts,*) => `(tactic| simp (config := { decide := false }) (disch := (with_reducible refine Sz.mk ?_; first | assumption | omega | ((try simp only [List.length_append, List.length_cons, List.length_nil, List.length_map, List.length_replicate, O.toD, S_len]); omega))) only [fnRun, seqM, ifS, orT, andT, notT, andM, orM, notM, ifM, testM, viewB, view, M.bind, M.pure, M.stuck, nameM, constM, bltM, viewAll, consA, nilA, retM, opM, negM, chainM, isiM, tyName, strMM, tupM, lstM, freezeAll, freeze, setM, exprM, callM, callF, prep, lend, backM, wbAll, Rt.rv, iosOf, Arg.sl, List.map_cons, List.map_nil, List.length_cons, List.length_nil, Nat.zero_add, Nat.reduceAdd, Nat.reduceSub, Nat.reduceLT, Nat.reduceEqDiff, List.replicate_succ, List.replicate_zero, List.cons_append, List.nil_append, List.getElem?_cons_zero, List.getElem?_cons_succ, List.set_cons_zero, List.set_cons_succ, methM, isObj, fldM, dget, putFM, objAt, putD, slOf, mutM, lstAt, raiseM, skipM, O.toD, leF, ltF, gtF, geF, subF, iiF, if_true, if_false, Bool.false_eq_true, len_l, len_t, len_d, len_scr, len_s,  Bool.not_true, Bool.not_false, decide_true, decide_false, kit_str_str, kit_str_tuple, kit_str_int, kit_str_bool, kit_int_str, kit_int_int, kit_int_bool, kit_int_tuple, kit_bool_int, kit_bool_bool, kit_bool_tuple, kit_bool_str, kit_tuple_tuple, kit_tuple_str, kit_tuple_int, kit_tuple_bool, kit_none_tuple, kit_none_str, kit_none_int, kit_none_bool, kit_list_tuple, kit_list_str, kit_list_int, nameG, tupGn, consG, nilG, Nat.lt_add_one, ixL, ixT, ixSc, ixAz, ixSS, appendF, Option.map_some, Option.map_none, wipeE, restE, forR, lcW, lcF, lcS, forS, forT, wipeS, extendF, yesT, int_i, int_b, putM, dicAt, putLM, rng1M, addF_ll, addF_ii, addF_tt, tupleF, sliceM, intM, dOpt, eqO_i, neO_i, eqO_S, neO_S, eqO_b, list2_l, list2_t, list2_d, inOF, Bool.false_xor, Bool.true_xor, Bool.true_and, Bool.and_true, Bool.false_and, Bool.and_false, Bool.true_or, Bool.false_or, Bool.or_true, Bool.or_false, ifLt, ifLe, at0, at1, at2, at3, ix0, ix1, ix2, ix3, ne_ss, ne_ps, kn_1, kn_2, kn_3, kn_4, kn_5, kn_6, kn_7, S_cps, mk_S, inF_sign, pow18, pow60, pow30, pow12, pow10, sl_tail, add_md, add_dmd, addSS, modZ, fdivZ, mulZR, mulZL, mulZ_l, S_len, $[$ts:term],*])
theorem law3_walk (n : Nat) (ns : List Int) (bk : D) (ks : List Str) (ds : List D) (s3 : Sl) (p p1 p2 p3 p4 p5 p6 : List D) (k c i d long x B60 B70 y g : Int) (kd v v' kd' tx bl : D) (ch : Bool) (tl : Int)
    (h1 : T n ._law_cell [.fz (.scr ns), .fz (.int k)] = .ret (.fz (.int c)) [.fz (.scr ns), .fz (.int k)])
    (h2 : T n ._law_dig [.fz (.int c)] = .ret (.own (.lst p)) [.fz (.int c)])
    (h3 : T n ._law_next [.io (.lst p), .fz (.int ((ks.length : Int) + 1))] = .ret (.fz (.int i)) [.io (.lst p1), .fz (.int ((ks.length : Int) + 1))])
    (hkd : atI (ks.map D.str ++ [.str (S numL)]) i = some kd) (hks : ks.length ≤ 100)
    (h4 : T n ._law_next [.io (.lst p1), .fz (.int 4)] = .ret (.fz (.int d)) [.io (.lst p2), .fz (.int 4)])
    (h5 : T n ._law_item [.fz (.tup [bk, .dic ks ds]), .fz kd, .io (.lst p2), .fz (.int d)] = .ret (.fz v) [.fz (.tup [bk, .dic ks ds]), .fz kd, .io (.lst p3), .fz (.int d)])
    (h6 : T n ._law_next [.io (.lst p3), .fz (.int 30)] = .ret (.fz (.int long)) [.io (.lst p4), .fz (.int 30)])
    (h7 : T n ._law_next [.io (.lst p4), .fz (.int 4)] = .ret (.fz (.int x)) [.io (.lst p5), .fz (.int 4)])
    (ht : T n ._law_value_text [.fz v] = .ret (.fz tx) [.fz v]) (htl : lenF [tx] = some (.fz (.int tl)))
    (hch : (decide (x = 0) || decide (4000 < tl)) = ch)
    (hbl : ixF bk (.int (-1)) = some (.fz (.tup [kd', bl]))) (hc : T n ._law_chain [.fz bk, .fz (.int long)] = .ret (.fz v') [.fz bk, .fz (.int long)])
    (tx2 : D) (h8 : T n ._law_value_text [.fz (if ch then v' else v)] = .ret (.fz tx2) [.fz (if ch then v' else v)])
    (h9 : T n .written_value [.fz (if ch then v' else v)] = .ret (.fz tx2) [.fz (if ch then v' else v)])
    (h10 : T n ._law_alike [.fz tx2, .fz tx2] = .ret (.fz (.bl true)) [.fz tx2, .fz tx2])
    (h11 : l_law_1 (T n) [.fz (.scr ns), .fz bk, .fz (.tup [bk, .dic ks ds]), .fz (.int k), .own (.lst p5), .fz (if ch then kd' else kd), .fz (if ch then v' else v), .fz (.int long), .fz tx2, .un, .un, .un] = .ok .nx [.fz (.scr ns), .fz bk, .fz (.tup [bk, .dic ks ds]), .fz (.int k), .own (.lst p5), .fz (if ch then kd' else kd), .fz (if ch then v' else v), .fz (.int long), .fz tx2, .un, .un, .un])
    (hB : powF (.int 10) (.int 60) = some (.fz (.int B60))) (hB2 : mulF2 (.int B60) (.int 10000000000) = some (.fz (.int B70)))
    (h12 : T n ._law_next [.io (.lst p5), .fz (.int 1000000000000)] = .ret (.fz (.int y)) [.io (.lst p6), .fz (.int 1000000000000)]) (hg : B70 - 1 - y = g)
    (h13 : l_law_2 (T n) [.fz (.scr ns), .fz bk, .fz (.tup [bk, .dic ks ds]), .fz (.int k), .own (.lst p6), .fz (if ch then kd' else kd), .fz (if ch then v' else v), .fz (.int long), .fz tx2, .un, .fz (.int g), .un] = .ok .nx [.fz (.scr ns), .fz bk, .fz (.tup [bk, .dic ks ds]), .fz (.int k), .own (.lst p6), .fz (if ch then kd' else kd), .fz (if ch then v' else v), .fz (.int long), .fz tx2, .un, .fz (.int g), .un]) :
    forT (nameG 3) (wipeS [3, 4, 5, 6, 7, 8, 9, 10, 11] (seqM (setM 4 (callM [false] (T n ._law_dig) (consA (callM [false, false] (T n ._law_cell) (consA (nameM 0) (consA (nameM 3) nilA))) nilA)))
    (seqM (setM 5 (opM ixF (opM addF (bltM listF2 (consA (opM ixF (nameM 2) (constM (.int 1))) nilA)) (lstM (consA (constM (.str (S numL))) nilA))) (callM [true, false] (T n ._law_next) (consA (nameM 4) (consA (opM addF (bltM lenF (consA (opM ixF (nameM 2) (constM (.int 1))) nilA)) (constM (.int 1))) nilA)))))
    (seqM (setM 6 (callM [false, false, true, false] (T n ._law_item) (consA (nameM 2) (consA (nameM 5) (consA (nameM 4) (consA (callM [true, false] (T n ._law_next) (consA (nameM 4) (consA (constM (.int 4)) nilA))) nilA))))))
    (seqM (setM 7 (callM [true, false] (T n ._law_next) (consA (nameM 4) (consA (constM (.int 30)) nilA))))
    (seqM (ifS (orT (testM (opM eqOF2 (callM [true, false] (T n ._law_next) (consA (nameM 4) (consA (constM (.int 4)) nilA))) (constM (.int 0)))) (testM (opM gtF (bltM lenF (consA (callM [false] (T n ._law_value_text) (consA (nameM 6) nilA)) nilA)) (constM (.int 4000))))) (asgM (tupGn 2 (consG (nameG 5) (consG (nameG 6) nilG))) (tupM (consA (opM ixF (opM ixF (nameM 1) (negM (constM (.int 1)))) (constM (.int 0))) (consA (callM [false, false] (T n ._law_chain) (consA (nameM 1) (consA (nameM 7) nilA))) nilA)))) skipM)
    (seqM (setM 8 (callM [false] (T n ._law_value_text) (consA (nameM 6) nilA)))
    (seqM (ifS (notT (testM (callM [false, false] (T n ._law_alike) (consA (callM [false] (T n .written_value) (consA (nameM 6) nilA)) (consA (nameM 8) nilA))))) (retM (constM (.bl false))) skipM)
    (seqM (wipeS [9] (l_law_1 (T n)))
    (seqM (setM 10 (opM subF (opM subF (opM mulF2 (opM powF (constM (.int 10)) (constM (.int 60))) (opM powF (constM (.int 10)) (constM (.int 10)))) (constM (.int 1))) (callM [true, false] (T n ._law_next) (consA (nameM 4) (consA (opM powF (constM (.int 10)) (constM (.int 12))) nilA)))))
    (wipeS [11] (l_law_2 (T n))))))))))))) (.int k) [.fz (.scr ns), .fz bk, .fz (.tup [bk, .dic ks ds]), s3, .un, .un, .un, .un, .un, .un, .un, .un] = .ok .nx [.fz (.scr ns), .fz bk, .fz (.tup [bk, .dic ks ds]), Sl.un, .un, .un, .un, .un, .un, .un, .un, .un] := by
  by_cases hx : x = 0
  · have e1 : decide (x = 0) = true := decide_eq_true hx
    rw [e1, Bool.true_or] at hch
    subst hch
    simp only [if_true] at h8 h9 h11 h13
    wp_walk using h1, h2, h3, hkd, h4, h5, h6, h7, e1, hbl, hc, h8, h9, h10, h11, hB, hB2, h12, hg, h13, asgM, List.length_nil
  · have e1 : decide (x = 0) = false := decide_eq_false hx
    rw [e1, Bool.false_or] at hch
    cases ch with
    | true =>
      simp only [if_true] at h8 h9 h11 h13
      wp_walk using h1, h2, h3, hkd, h4, h5, h6, h7, e1, ht, htl, hch, hbl, hc, h8, h9, h10, h11, hB, hB2, h12, hg, h13, asgM, List.length_nil
    | false =>
      simp only [Bool.false_eq_true, if_false] at h8 h9 h11 h13
      obtain rfl : tx = tx2 := by have z := ht.symm.trans h8; cases z; rfl
      clear h8
      wp_walk using h1, h2, h3, hkd, h4, h5, h6, h7, e1, ht, htl, hch, h9, h10, h11, hB, hB2, h12, hg, h13, List.length_nil

theorem at_neg (bs : List D) (k bl : D) (h : atI bs (-1) = some (.tup [k, bl])) : ixF (.tup bs) (.int (-1)) = some (.fz (.tup [k, bl])) := by
  show (atI bs (-1)).map Rv.fz = _
  rw [h]; rfl
theorem p70' : mulF2 (.int (10 ^ 60)) (.int 10000000000) = some (.fz (.int (10 ^ 70))) := by
  rw [mul2R _ (by decide) (by decide)]
  congr 3
theorem law3_body {n : Nat} (hn : 80 ≤ n) (ns : List Int) {b : Book} {k e m : List Nat} {F : Nat} (B : Bk (b ++ [chK k e m]) F) (hF : 2 ≤ F) (hF4 : F ≤ 4) (hb : b.length ≤ 5) (hFb : 4 < b.length → F = 2) {pl : Pln} (W : Wp (b ++ [chK k e m]) pl) (j : Nat) (hj : j < 100) (s3 : Sl) :
    forT (nameG 3) (wipeS [3, 4, 5, 6, 7, 8, 9, 10, 11] (seqM (setM 4 (callM [false] (T n ._law_dig) (consA (callM [false, false] (T n ._law_cell) (consA (nameM 0) (consA (nameM 3) nilA))) nilA)))
    (seqM (setM 5 (opM ixF (opM addF (bltM listF2 (consA (opM ixF (nameM 2) (constM (.int 1))) nilA)) (lstM (consA (constM (.str (S numL))) nilA))) (callM [true, false] (T n ._law_next) (consA (nameM 4) (consA (opM addF (bltM lenF (consA (opM ixF (nameM 2) (constM (.int 1))) nilA)) (constM (.int 1))) nilA)))))
    (seqM (setM 6 (callM [false, false, true, false] (T n ._law_item) (consA (nameM 2) (consA (nameM 5) (consA (nameM 4) (consA (callM [true, false] (T n ._law_next) (consA (nameM 4) (consA (constM (.int 4)) nilA))) nilA))))))
    (seqM (setM 7 (callM [true, false] (T n ._law_next) (consA (nameM 4) (consA (constM (.int 30)) nilA))))
    (seqM (ifS (orT (testM (opM eqOF2 (callM [true, false] (T n ._law_next) (consA (nameM 4) (consA (constM (.int 4)) nilA))) (constM (.int 0)))) (testM (opM gtF (bltM lenF (consA (callM [false] (T n ._law_value_text) (consA (nameM 6) nilA)) nilA)) (constM (.int 4000))))) (asgM (tupGn 2 (consG (nameG 5) (consG (nameG 6) nilG))) (tupM (consA (opM ixF (opM ixF (nameM 1) (negM (constM (.int 1)))) (constM (.int 0))) (consA (callM [false, false] (T n ._law_chain) (consA (nameM 1) (consA (nameM 7) nilA))) nilA)))) skipM)
    (seqM (setM 8 (callM [false] (T n ._law_value_text) (consA (nameM 6) nilA)))
    (seqM (ifS (notT (testM (callM [false, false] (T n ._law_alike) (consA (callM [false] (T n .written_value) (consA (nameM 6) nilA)) (consA (nameM 8) nilA))))) (retM (constM (.bl false))) skipM)
    (seqM (wipeS [9] (l_law_1 (T n)))
    (seqM (setM 10 (opM subF (opM subF (opM mulF2 (opM powF (constM (.int 10)) (constM (.int 60))) (opM powF (constM (.int 10)) (constM (.int 10)))) (constM (.int 1))) (callM [true, false] (T n ._law_next) (consA (nameM 4) (consA (opM powF (constM (.int 10)) (constM (.int 12))) nilA)))))
    (wipeS [11] (l_law_2 (T n))))))))))))) (.int (j : Int)) [.fz (.scr ns), .fz (dBook (b ++ [chK k e m])), .fz (dW (b ++ [chK k e m]) pl), s3, .un, .un, .un, .un, .un, .un, .un, .un] = .ok .nx [.fz (.scr ns), .fz (dBook (b ++ [chK k e m])), .fz (dW (b ++ [chK k e m]) pl), .un, .un, .un, .un, .un, .un, .un, .un, .un] := by
  have hbl : (b ++ [chK k e m]).length ≤ 6 := by simp; omega
  have wl := W.len
  obtain ⟨c, h1⟩ := t_cell (n := n) (by omega) ns j (by omega)
  obtain ⟨p, P, h2⟩ := t_dig (n := n) (by omega) c
  have hkl : ((keysP pl).map S).length = pl.length := by simp [keysP]
  obtain ⟨i, p1, i1, P1, h3⟩ := t_nextN (n := n) (by omega) P (base := (((keysP pl).map S).length : Int) + 1) (by omega) (by omega)
  obtain ⟨kd, hkd, hat⟩ := getDrawn (l := keysP pl ++ [numL]) (d := i) (by simp [keysP] at i1 ⊢; omega)
  have hkd2 : atI (((keysP pl).map S).map D.str ++ [.str (S numL)]) (i : Int) = some (.str (S kd)) := by
    rw [keys_add]
    rw [atI_nat] at hat ⊢
    rw [List.getElem?_map, hat]; rfl
  obtain ⟨d, p2, d1, P2, h4⟩ := t_nextN (n := n) (by omega) P1 (base := 4) (by decide) (by decide)
  obtain ⟨v, p3, DR, P3, h5⟩ := t_item B (by omega) hF4 (by omega) W (3 + pl.length) n d kd p2 (by omega) P2 (by
    rcases List.mem_append.mp hkd with z | z
    · by_cases hd : 0 < (d : Int)
      · exact .inr (.inl ⟨hd, by omega, z⟩)
      · obtain ⟨q, hq⟩ := List.getElem?_of_mem z
        refine .inr (.inr ⟨by omega, q, hq, ?_⟩)
        have := (List.getElem?_eq_some_iff.mp hq).1
        simp only [keysP, List.length_map] at this
        omega
    · simp at z; exact .inl z)
  have hL : Lb F (3 + pl.length) ≤ 9000000 := by
    have hp : pl.length ≤ b.length + 1 := by simpa using wl
    have hmono : ∀ a c : Nat, Lb F a ≤ Lb F (a + c) := by
      intro a c
      induction c with
      | zero => exact Nat.le_refl _
      | succ c ih =>
        refine Nat.le_trans ih ?_
        show Lb F (a + c) ≤ 10 + F * (Lb F (a + c) + 1)
        have := Nat.le_mul_of_pos_left (Lb F (a + c) + 1) (show 0 < F by omega)
        omega
    by_cases h4 : 4 < b.length
    · rw [hFb h4]
      have := hmono (3 + pl.length) (6 - pl.length)
      rw [hFb h4, show 3 + pl.length + (6 - pl.length) = 9 by omega] at this
      exact Nat.le_trans this (by decide)
    · have hFm : ∀ r, Lb F r ≤ Lb 4 r := by
        intro r
        induction r with
        | zero => exact Nat.le_refl _
        | succ r ih =>
          show 10 + F * (Lb F r + 1) ≤ 10 + 4 * (Lb 4 r + 1)
          have := Nat.mul_le_mul hF4 (show Lb F r + 1 ≤ Lb 4 r + 1 by omega)
          omega
      have := hmono (3 + pl.length) (5 - pl.length)
      rw [show 3 + pl.length + (5 - pl.length) = 8 by omega] at this
      exact Nat.le_trans this (Nat.le_trans (hFm 8) (by decide))
  obtain ⟨long, p4, l1, P4, h6⟩ := t_nextN (n := n) (by omega) P3 (base := 30) (by decide) (by decide)
  obtain ⟨x, p5, x1, P5, h7⟩ := t_nextN (n := n) (by omega) P4 (base := 4) (by decide) (by decide)
  have ht := t_value_text 20 n v (by have := DR.dp; omega) DR.ok.sm (by have := DR.ln; omega) (by omega)
  have htl := lenS (vT v) (by have := DR.ln; omega)
  have hlast := at_last (b.map dKind) (dKind (chK k e m))
  rw [show b.map dKind ++ [dKind (chK k e m)] = (b ++ [chK k e m]).map dKind by simp] at hlast
  have hbl2 := at_neg _ _ _ hlast
  have hc := t_chain (n := n) (by omega) b k e m long (by omega)
  obtain ⟨f1, f2, f3, f4⟩ := chV_facts B long (by omega)
  obtain ⟨ch, hch⟩ : ∃ ch, (decide ((x : Int) = 0) || decide (4000 < ((vT v).length : Int))) = ch := ⟨_, rfl⟩
  obtain ⟨vv, hvv⟩ : ∃ vv, (if ch then chV e m long else v) = vv := ⟨_, rfl⟩
  obtain ⟨kk, hkk⟩ : ∃ kk, (if ch then k else kd) = kk := ⟨_, rfl⟩
  have hv1 : (if ch = true then dVal (chV e m long) else dVal v) = dVal vv := by rw [← hvv]; cases ch <;> rfl
  have hk1 : (if ch = true then D.str (S k) else D.str (S kd)) = D.str (S kk) := by rw [← hkk]; cases ch <;> rfl
  have fv : okV vv ∧ isV (b ++ [chK k e m]) kk vv = true ∧ dpV vv ≤ 30 ∧ (vT vv).length ≤ 4000 := by
    cases ch with
    | true =>
      simp only [if_true] at hvv hkk
      subst hvv hkk
      exact ⟨f1, f2, by omega, by omega⟩
    | false =>
      simp only [Bool.false_eq_true, if_false] at hvv hkk
      subst hvv hkk
      have : decide (4000 < ((vT v).length : Int)) = false := by
        cases q : decide (4000 < ((vT v).length : Int)) with
        | false => rfl
        | true => rw [q, Bool.or_true] at hch; cases hch
      have := of_decide_eq_false this
      exact ⟨DR.ok, DR.is_, by have := DR.dp; omega, by omega⟩
  obtain ⟨g1, g2, g3, g4⟩ := fv
  have h8 := t_value_text 30 n vv g3 g1.sm (by omega) (by omega)
  have h9 := t_written_value 30 n vv g3 g1.sm (by omega) (by omega)
  have h10 := t_alike 0 n (.str (S (vT vv))) (by simp [dpD]) rfl (by omega)
  have hrd := t_read_value (n := n) (by omega) (b ++ [chK k e m]) kk (vT vv) (by omega)
  rw [rdVal_vT g2 g1 g3] at hrd
  have hal := alike_val (n := n) (by omega) (v := vv) (by omega) (by omega)
  obtain ⟨y, p6, y1, P6, h12⟩ := t_nextN (n := n) (by omega) P5 (base := 1000000000000) (by decide) (by decide)
  have h0 : ∀ i : Int, i = ((10 : Int) ^ 70 - 1 - (y : Int)) ∨ i = -((10 : Int) ^ 70 - 1 - (y : Int)) → strF [.int i] = some (.fz (.str (S (itL i)))) ∧ T n .read_value [.fz (dBook (b ++ [chK k e m])), .fz (.str (S numL)), .fz (.str (S (itL i)))] = .ret (.fz (.int i)) [.fz (dBook (b ++ [chK k e m])), .fz (.str (S numL)), .fz (.str (S (itL i)))] ∧ T n ._law_alike [.fz (.int i), .fz (.int i)] = .ret (.fz (.bl true)) [.fz (.int i), .fz (.int i)] := by
    intro i hi
    have hi70 : i.natAbs < 10 ^ 70 := by omega
    have hlen : (itL i).length ≤ 71 := by
      by_cases z : 0 ≤ i
      · rw [itL_pos z]
        have : (TL.numL i.toNat).length ≤ 70 := TL.numL_len (by decide) (by omega)
        omega
      · rw [itL_ng (by omega)]
        have : (TL.numL i.natAbs).length ≤ 70 := TL.numL_len (by decide) hi70
        simp only [List.length_cons]; omega
    have hr := t_read_value (n := n) (by omega) (b ++ [chK k e m]) numL (itL i) (by omega)
    have := rdVal_vT (b := b ++ [chK k e m]) (k := numL) (v := .num i) (by simp [isV]) hi70 (by simp [dpV])
    simp only [vT] at this
    rw [this] at hr
    exact ⟨str_it (p70 hi70), hr, t_alike 0 n (.int i) (by simp [dpD]) rfl (by omega)⟩
  refine law3_walk n ns (dBook (b ++ [chK k e m])) ((keysP pl).map S) (pl.map fun x => dMake x.2) s3 p p1 p2 p3 p4 p5 p6 j c i d long x (10 ^ 60) (10 ^ 70) y _ (.str (S kd)) (dVal v) (dVal (chV e m long)) (.str (S k)) (.str (S (vT v))) _ ch ((vT v).length : Int) h1 h2 h3 hkd2 (by omega) h4 h5 h6 h7 ht htl hch hbl2 hc (.str (S (vT vv))) ?_ ?_ h10 ?_ pow60 p70' h12 rfl ?_
  · rw [hv1]; exact h8
  · rw [hv1]; exact h9
  · rw [hv1, hk1]; exact law1 n _ _ _ _ _ _ _ _ _ _ _ hrd hal
  · rw [hv1, hk1]; exact law2 n _ _ _ _ _ _ _ _ _ _ _ (fun i => .str (S (itL i))) h0
theorem rng2_of {G : M (List Rv)} {e e' : Ev} {m : Nat} (h : m ≤ 1000) (hG : G e = .ok [.fz (.int 1), .fz (.int (m : Int))] e') : rng2M G e = .ok ((List.range (m - 1)).map fun k : Nat => D.int ((k + 1 : Nat) : Int)) e' := by
  have h2 := inR_nat (m := m) (by omega)
  have h1 : inR 1 = true := by decide
  have e3 : ((m : Int) - 1).toNat = m - 1 := by omega
  have e4 : rangeD 1 (m - 1) = (List.range (m - 1)).map fun k : Nat => D.int ((k + 1 : Nat) : Int) := by
    unfold rangeD
    exact List.map_congr_left fun k _ => by rw [show (1 : Int) + (k : Int) = ((k + 1 : Nat) : Int) by omega]
  simp only [rng2M, M.bind, hG, viewAll, view, h1, h2, Bool.and_true, if_true, e3, e4]
theorem bound_walk (T : Fn → Fun) (ns : List Int) (s1 s2 s3 s4 s5 s6 s7 s8 s9 s10 s11 : Sl) (u m : Int) (h1 : minF [.int 63, .int (ns.length : Int)] = some (.fz (.int u))) (h2 : maxF [.int 9, .int u] = some (.fz (.int m))) :
    consA (constM (.int 1)) (consA (bltM maxF (consA (constM (.int 9)) (consA (bltM minF (consA (constM (.int 63)) (consA (bltM lenF (consA (nameM 0) nilA)) nilA))) nilA))) nilA) [.fz (.scr ns), s1, s2, s3, s4, s5, s6, s7, s8, s9, s10, s11] = .ok [.fz (.int 1), .fz (.int m)] [.fz (.scr ns), s1, s2, s3, s4, s5, s6, s7, s8, s9, s10, s11] := by
  wp_walk using h1, h2
theorem bound_ok (l : Nat) (q : Nat) (hq : q ≤ 63) : ∃ (m : Nat) (u : Int), m ≤ 63 ∧ minF [.int 63, .int (l : Int)] = some (.fz (.int u)) ∧ maxF [.int (q : Int), .int u] = some (.fz (.int (m : Int))) := by
  by_cases h : l < 63
  · by_cases h3 : q < l
    · exact ⟨l, l, by omega, by rw [minI, if_pos (by omega)], by rw [maxI, if_pos (by omega)]⟩
    · exact ⟨q, l, by omega, by rw [minI, if_pos (by omega)], by rw [maxI, if_neg (by omega)]⟩
  · by_cases h3 : q < 63
    · exact ⟨63, 63, by omega, by rw [minI, if_neg (by omega)], by rw [maxI, if_pos (by omega)]; rfl⟩
    · exact ⟨q, 63, by omega, by rw [minI, if_neg (by omega)], by rw [maxI, if_neg (by omega)]⟩
theorem law3 {n : Nat} (hn : 80 ≤ n) (ns : List Int) {b : Book} {k e m : List Nat} {F : Nat} (B : Bk (b ++ [chK k e m]) F) (hF : 2 ≤ F) (hF4 : F ≤ 4) (hb : b.length ≤ 5) (hFb : 4 < b.length → F = 2) {pl : Pln} (W : Wp (b ++ [chK k e m]) pl) :
    l_law_3 (T n) [.fz (.scr ns), .fz (dBook (b ++ [chK k e m])), .fz (dW (b ++ [chK k e m]) pl), .un, .un, .un, .un, .un, .un, .un, .un, .un] = .ok .nx [.fz (.scr ns), .fz (dBook (b ++ [chK k e m])), .fz (dW (b ++ [chK k e m]) pl), .un, .un, .un, .un, .un, .un, .un, .un, .un] := by
  unfold l_law_3
  obtain ⟨M, u, hM, g1, g2⟩ := bound_ok ns.length 9 (by omega)
  have hI := rng2_of (m := M) (by omega) (bound_walk (T n) ns (.fz (dBook (b ++ [chK k e m]))) (.fz (dW (b ++ [chK k e m]) pl)) .un .un .un .un .un .un .un .un .un u M g1 g2)
  rw [forM_eq hI]
  refine forL_same (fun k : Nat => D.int ((k + 1 : Nat) : Int)) _ (List.range (M - 1)) fun j hj => ?_
  have hj := List.mem_range.mp hj
  have h := law3_body hn ns B hF hF4 hb hFb W (j + 1) (by omega) .un
  unfold forT at h
  split at h
  · rename_i e1 q; exact ⟨e1, q, h⟩
  · cases h
theorem law_walk (n : Nat) (ns : List Int) (p p' : List D) (c : Int) (b0 bk : D) (ks : List Str) (ds : List D)
    (h1 : T n ._law_cell [.fz (.scr ns), .fz (.int 0)] = .ret (.fz (.int c)) [.fz (.scr ns), .fz (.int 0)])
    (h2 : T n ._law_dig [.fz (.int c)] = .ret (.own (.lst p)) [.fz (.int c)])
    (h3 : T n ._law_volume [.io (.lst p)] = .ret (.fz b0) [.io (.lst p')])
    (h4 : T n ._law_chained [.fz b0] = .ret (.fz bk) [.fz b0])
    (h5 : T n ._law_rounds [.fz bk] = .ret (.own (.dic ks ds)) [.fz bk])
    (h6 : l_law_3 (T n) [.fz (.scr ns), .fz bk, .fz (.tup [bk, .dic ks ds]), .un, .un, .un, .un, .un, .un, .un, .un, .un] = .ok .nx [.fz (.scr ns), .fz bk, .fz (.tup [bk, .dic ks ds]), .un, .un, .un, .un, .un, .un, .un, .un, .un]) :
    T (n + 1) .law [.fz (.scr ns)] = .ret (.fz (.bl true)) [.fz (.scr ns)] := by
  show fnRun 12 (b_law (T n)) _ = _
  unfold b_law
  wp_walk using h1, h2, h3, h4, h5, h6, List.length_nil
theorem t_law {n : Nat} (hn : 81 ≤ n) (ns : List Int) : T n .law [.fz (.scr ns)] = .ret (.fz (.bl true)) [.fz (.scr ns)] := by
  obtain ⟨n, rfl, hk⟩ := up1 (k := 80) hn
  obtain ⟨c, h1⟩ := t_cell (n := n) (by omega) ns 0 (by omega)
  obtain ⟨p, P, h2⟩ := t_dig (n := n) (by omega) c
  obtain ⟨b, p', m0, B0, bl, m5, hk1, hm1, P', h3⟩ := t_volume (n := n) (by omega) P
  have hF : 2 ≤ fMax m0 ∧ fMax m0 ≤ 4 ∧ (4 < m0 → fMax m0 = 2) := by unfold fMax; split <;> omega
  obtain ⟨k, e, m, B, h4⟩ := t_chained (n := n) (by omega) B0 hF.1 (by omega) hk1 hm1
  obtain ⟨pl, W, h5⟩ := t_rounds (n := n) (by omega) (b := b ++ [chK k e m]) (by simp; omega) (List.nodup_cons.mp B.kn).2 fun x hx y hy => by have := B.f4 x hx y hy; omega
  exact law_walk n ns p p' c _ _ _ _ h1 h2 h3 h4 h5 (law3 hk ns B hF.1 hF.2.1 (by omega) (by rw [bl]; exact hF.2.2) W)
theorem good (ns : List Int) (h : ns.length ≤ 63) : ∃ ios, T 100 .law [.fz (.scr ns)] = .ret (.fz (.bl true)) ios := ⟨_, t_law (by omega) ns⟩

end Sc.Law
end
set_option linter.all false
set_option autoImplicit false
set_option maxRecDepth 100000
set_option maxHeartbeats 400000
namespace Sc.Law
open PySem PySem.Spec PyProof.Rows L2 Sc Hd
/-- the colours at the law's entry -/
def cEnd (H : Hp) : CM := fun a => match H a with
  | some _ => .frz
  | none => .oth
theorem law_sp {K : PySem.W.Frag} {F : Fun} {ns : List Int} {ios : List Arg} (h : F [.fz (.scr ns)] = .ret (.fz (.bl true)) ios) {H : Hp} {a : Addr} (hS : SqL K H a (ns.map V.int)) : spOf K 1 F [.ref a] H (fun v _ => v = .bl true) fun _ _ _ => False := by
  have f : Fz K (cEnd H) H (.ref a) (.scr ns) := by
    rcases hS with hS | ⟨o, its, n, q⟩
    · refine .scr ?_ hS
      unfold cEnd
      rcases hS with hS | ⟨o, hS⟩ <;> rw [hS]
    · exact .kscr ⟨o, its, n, q⟩
  refine ⟨rfl, cEnd H, [.fz (.scr ns)], fun b hb => (by unfold cEnd; rw [hb]), fun b i => (by unfold cEnd; cases H b <;> simp), fun b j hb => (by unfold cEnd at hb; cases q : H b <;> rw [q] at hb <;> cases hb), .fz f .nil, ?_⟩
  rw [h]
  intro c' H' v _ _ _ r
  cases r
  rfl
/-- nothing is raised -/
theorem calm_ok {P : Program} {w : World} {K : PySem.W.Frag} {mg : Str → Option Value} {base : Heap} {k : Nat} {f : Addr} {fd : FuncData} {ps : List Str} {sp : Sp} (F : FnOk P w K mg base (L2.CX P w) k f fd ps sp) : FnOk P w K mg base CX0 k f fd ps fun vs H Q _ => sp vs H Q fun _ _ _ => False where
  len vs H Q E h := F.len _ _ _ _ h
  run A outer s H args us vs Q E hr e0 hb hv h := codeAny_mono (F.run A outer s H args us vs Q _ hr e0 hb hv h) fun r s' q => by
    cases r with
    | ok fl => cases fl <;> exact q
    | error e =>
      obtain ⟨_, _, _, _, _, _, _, _, _, _, _, _, z⟩ := q
      exact z
end Sc.Law
namespace Sc.Law
open PySem PySem.W PySem.Calls PyProof.Rows Hd Sc
theorem fin {N : Nat} (hr : L2.Room (2 * (N + 1)) callerA) (good : ∀ ns : List Int, ns.length ≤ 63 → ∃ ios, T (N + 1) .law [.fz (.scr ns)] = .ret (.fz (.bl true)) ios) :
    WalkO (PySem.W.view R.prog [38]) nms (XL (PySem.W.view R.prog [38]) []) hk.says R.toRowW (HandSHeadRun.topDef R.prog 38) [] fun f vs => PySem.call f vs := by
  refine L2.walk_ofE (l := PySem.Challenge.rw_shapecourt_k82_values_written_and_read) (n := 63) (k := 2 * (N + 1)) (x := "script") (CX := L2.CX0) rfl (by decide) (by kernel_rfl) hr ?F fun _ _ _ _ z => z
  case F =>
    intro w mg fa' h Y G hmg0
    obtain ⟨K, KX, c⟩ := Y
    have hmg : mg ("law" : PySem.Str) = some (.ref fa') := by
      have e : (HandSHeadRun.topDef R.prog 38).name = ("law" : PySem.Str) := by kernel_rfl
      rw [← e]
      exact hmg0
    have t := tx KX G c
    have e := hmg.symm.trans t.g_law
    cases e
    obtain ⟨fd, Fd⟩ := c.def_ 32 (d := d_law) rfl
    have b := L2.FunD.bindsA (ps := ["script"]) Fd fun _ _ _ _ _ _ us hl => match us, hl with | [_], _ => rfl
    refine ⟨K, fd, fun vs H Q _ => spOf K 1 (T (N + 1) .law) vs H Q fun _ _ _ => False, KX, fun s v => b s [v] rfl, fun H a ns hl _ hS => ?_, fun base _ _ => calm_ok (o_law t (lv t c N) Fd)⟩
    obtain ⟨ios, h⟩ := good ns hl
    exact law_sp h hS
end Sc.Law
open PySem PySem.W PySem.Calls PyProof.Rows
set_option maxHeartbeats 0 in
theorem PySem.Challenge.cw_shapecourt_k82_values_written_and_read_holds : PySem.Challenge.rw_shapecourt_k82_values_written_and_read.Holds := by
  w_on; o_law
  refine HandSHeadRun.head_any (r := Hd.R) (q := PySem.W.view Hd.R.prog [38]) (H := Hd.hk) (ob := Hd.ob) (M := 3000) (loose := Hd.nms) (d := HandSHeadRun.topDef Hd.R.prog 38) (kwd := []) Hd.ob_eq (by kernel_rfl) (fun s => by kernel_rfl) Hd.run (by kernel_rfl) (by kernel_rfl) (by kernel_rfl) (by rfl) (by first | assumption | decide +kernel) (by decide +kernel) ⟨rfl, rfl, rfl, rfl, rfl, by decide +kernel⟩ ?hw ?hc
  case hw => w_witness2
  case hc => exact Sc.Law.fin (N := 99) ⟨rfl, by decide, by decide⟩ Sc.Law.good
