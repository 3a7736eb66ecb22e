import PyProof.Rows.All
import Wide.All
import OpenK.AllK
import Wide.FinOn
import HandS.ForMost
import HandS.ForExc
import HandS.IsInst
import HandS.NoneIn
import HandS.StrMore
import HandS.Zip
import HandS.CallSlots
import HandS.HeadHook2
import HandS.TupAny
import HandS.Deep
import HandS.Exc
import HandS.ExcOwn
import HandS.WordsExc
import HandS.Defaults
import HandS.Strs
import KE.KStateDown
import HandS.Base
import HandS.Call
import HandS.Ends
import HandS.More
import HandS.Words
import HandS.Head0
import HandS.Head1
import HandS.Head2
import HandS.HeadEnd
import HandS.HeadHook1
import PySem.Challenge.RW_shapecourt_k80_books_written_and_read
set_option Elab.async false
set_option linter.all false
set_option autoImplicit false
set_option maxRecDepth 100000
set_option maxHeartbeats 4000000
namespace Sc
open PySem PySem.Spec PyProof.Rows L2

/-! ### data -/
inductive D where
  | non | bl (b : Bool) | int (i : Int) | str (x : Str)
  | tup (ds : List D) | lst (ds : List D)
  | dic (ks : List Str) (ds : List D)
  | obj (C : Str) (ks : List Str) (ds : List D)
  | scr (ns : List Int)
instance : Inhabited D := ⟨.non⟩
/-- colours of tracked addresses: frozen; owned by a slot; lent to the def at a parameter; any other -/
inductive Col where
  | frz | own (i : Nat) | io (i : Nat) | oth | lent (i : Nat)
  deriving DecidableEq
abbrev CM := Addr → Col

/-- a tuple of the written part -/
def KT (K : PySem.W.Frag) (a : Addr) (xs : List V) : Prop :=
  ∃ (o : Obj) (its : Array Value) (n : Nat), K.lookup a = some o ∧ o.cls = .type "tuple" ∧ o.data = .seq its n ∧ its.size ≤ sizeLine ∧ Vals xs its.toList
/-- a list of the written part -/
def KL (K : PySem.W.Frag) (a : Addr) (xs : List V) : Prop :=
  ∃ (o : Obj) (its : Array Value) (n : Nat), K.lookup a = some o ∧ o.cls = .type "list" ∧ o.dict = none ∧ o.data = .seq its n ∧ its.size ≤ sizeLine ∧ Vals xs its.toList
mutual
inductive Fz (K : PySem.W.Frag) (c : CM) (H : Hp) : V → D → Prop
  | non : Fz K c H .non .non
  | bl (b : Bool) : Fz K c H (.bl b) (.bl b)
  | int (i : Int) : Fz K c H (.int i) (.int i)
  | str (x : Str) : Fz K c H (.str x) (.str x)
  | tup {a : Addr} {xs : List V} {ds : List D} : c a = .frz → H a = some (.tup xs) → FzA K c H xs ds → Fz K c H (.ref a) (.tup ds)
  | ktup {a : Addr} {xs : List V} {ds : List D} : KT K a xs → FzA K c H xs ds → Fz K c H (.ref a) (.tup ds)
  | lst {a : Addr} {xs : List V} {ds : List D} : c a = .frz → H a = some (.lst xs) → FzA K c H xs ds → Fz K c H (.ref a) (.lst ds)
  | scr {a : Addr} {ns : List Int} : c a = .frz → Rd H a (.lst (ns.map V.int)) → Fz K c H (.ref a) (.scr ns)
  | kscr {a : Addr} {ns : List Int} : KL K a (ns.map V.int) → Fz K c H (.ref a) (.scr ns)
  | dic {a : Addr} {kvs : List (Key × V)} {ks : List Str} {vs : List V} {ds : List D} : c a = .frz → H a = some (.dK kvs) → kvs.map (·.1) = ks.map Sum.inr → kvs.map (·.2) = vs → FzA K c H vs ds → Fz K c H (.ref a) (.dic ks ds)
  | obj {a dx : Addr} {C : Str} {fs : List (Str × V)} {ks : List Str} {vs : List V} {ds : List D} : c a = .frz → H a = some (.ins (He.ga K C) dx fs) → fs.map (·.1) = ks → fs.map (·.2) = vs → FzA K c H vs ds → Fz K c H (.ref a) (.obj C ks ds)
inductive FzA (K : PySem.W.Frag) (c : CM) (H : Hp) : List V → List D → Prop
  | nil : FzA K c H [] []
  | cons {v : V} {d : D} {vs : List V} {ds : List D} : Fz K c H v d → FzA K c H vs ds → FzA K c H (v :: vs) (d :: ds)
end
/-- all that is frozen stays -/
def Frz (c : CM) (H : Hp) (c' : CM) (H' : Hp) : Prop := ∀ a, c a = .frz → c' a = .frz ∧ (H a ≠ none → H' a = H a)
section
variable {K : PySem.W.Frag} {c c' c2 : CM} {H H' H2 : Hp}
mutual
theorem Fz.mono (h : Frz c H c' H') : ∀ {v : V} {d : D}, Fz K c H v d → Fz K c' H' v d
  | _, _, .non => .non
  | _, _, .bl b => .bl b
  | _, _, .int i => .int i
  | _, _, .str x => .str x
  | _, _, .tup e f g => .tup (h _ e).1 (by rw [(h _ e).2 (by rw [f]; simp), f]) (FzA.mono h g)
  | _, _, .ktup f g => .ktup f (FzA.mono h g)
  | _, _, .lst e f g => .lst (h _ e).1 (by rw [(h _ e).2 (by rw [f]; simp), f]) (FzA.mono h g)
  | _, _, .scr e f => .scr (h _ e).1 (by
      rcases f with f | ⟨o, f⟩
      · exact .inl (by rw [(h _ e).2 (by rw [f]; simp), f])
      · exact .inr ⟨o, by rw [(h _ e).2 (by rw [f]; simp), f]⟩)
  | _, _, .kscr f => .kscr f
  | _, _, .dic e f p q g => .dic (h _ e).1 (by rw [(h _ e).2 (by rw [f]; simp), f]) p q (FzA.mono h g)
  | _, _, .obj e f p q g => .obj (h _ e).1 (by rw [(h _ e).2 (by rw [f]; simp), f]) p q (FzA.mono h g)
theorem FzA.mono (h : Frz c H c' H') : ∀ {vs : List V} {ds : List D}, FzA K c H vs ds → FzA K c' H' vs ds
  | _, _, .nil => .nil
  | _, _, .cons a b => .cons (Fz.mono h a) (FzA.mono h b)
end
theorem FzA.length : ∀ {vs : List V} {ds : List D}, FzA K c H vs ds → vs.length = ds.length
  | _, _, .nil => rfl
  | _, _, .cons _ b => congrArg (· + 1) (FzA.length b)
theorem FzA.get : ∀ {vs : List V} {ds : List D} {i : Nat} {v : V}, FzA K c H vs ds → vs[i]? = some v → ∃ d, ds[i]? = some d ∧ Fz K c H v d
  | _, _, i, v, .nil, h => by simp at h
  | _, _, 0, v, .cons a _, h => by simp at h; subst h; exact ⟨_, rfl, a⟩
  | _, _, i + 1, v, .cons _ b, h => by simp at h; obtain ⟨d, e, f⟩ := FzA.get b h; exact ⟨d, by simpa using e, f⟩
theorem FzA.getD : ∀ {vs : List V} {ds : List D} {i : Nat} {d : D}, FzA K c H vs ds → ds[i]? = some d → ∃ v, vs[i]? = some v ∧ Fz K c H v d
  | _, _, i, v, .nil, h => by simp at h
  | _, _, 0, v, .cons a _, h => by simp at h; subst h; exact ⟨_, rfl, a⟩
  | _, _, i + 1, v, .cons _ b, h => by simp at h; obtain ⟨d, e, f⟩ := FzA.getD b h; exact ⟨d, by simpa using e, f⟩
theorem FzA.append : ∀ {vs ws : List V} {ds es : List D}, FzA K c H vs ds → FzA K c H ws es → FzA K c H (vs ++ ws) (ds ++ es)
  | _, _, _, _, .nil, h => h
  | _, _, _, _, .cons a b, h => .cons a (FzA.append b h)
theorem FzA.take : ∀ {vs : List V} {ds : List D} (n : Nat), FzA K c H vs ds → FzA K c H (vs.take n) (ds.take n)
  | _, _, 0, _ => by simpa using FzA.nil
  | _, _, n + 1, .nil => by simpa using FzA.nil
  | _, _, n + 1, .cons a b => by simpa using FzA.cons a (FzA.take n b)
theorem FzA.drop : ∀ {vs : List V} {ds : List D} (n : Nat), FzA K c H vs ds → FzA K c H (vs.drop n) (ds.drop n)
  | _, _, 0, h => by simpa using h
  | _, _, n + 1, .nil => by simpa using FzA.nil
  | _, _, n + 1, .cons a b => by simpa using FzA.drop n b
theorem FzA.set {v : V} {d : D} (r : Fz K c H v d) : ∀ {vs : List V} {ds : List D} (n : Nat), FzA K c H vs ds → FzA K c H (vs.set n v) (ds.set n d)
  | _, _, n, .nil => by simpa using FzA.nil
  | _, _, 0, .cons a b => by simpa using FzA.cons r b
  | _, _, n + 1, .cons a b => by simpa using FzA.cons a (FzA.set r n b)
theorem FzA.eraseIdx : ∀ {vs : List V} {ds : List D} (n : Nat), FzA K c H vs ds → FzA K c H (vs.eraseIdx n) (ds.eraseIdx n)
  | _, _, n, .nil => by simpa using FzA.nil
  | _, _, 0, .cons a b => by simpa using b
  | _, _, n + 1, .cons a b => by simpa using FzA.cons a (FzA.eraseIdx n b)
theorem FzA.dropLast {vs : List V} {ds : List D} (h : FzA K c H vs ds) : FzA K c H vs.dropLast ds.dropLast := by
  rw [List.dropLast_eq_take, List.dropLast_eq_take, h.length]; exact h.take _
theorem Frz.refl : Frz c H c H := fun _ h => ⟨h, fun _ => rfl⟩
/-- what the expression or statement leaves as it was -/
structure Step (c : CM) (H : Hp) (c' : CM) (H' : Hp) : Prop where
  at_ : ∀ a, H a ≠ none → H' a ≠ none ∧ (c a = .frz → c' a = .frz ∧ H' a = H a) ∧ (c a = .oth → c' a = .oth ∧ H' a = H a) ∧ (∀ j, c a = .io j → c' a = .io j)
theorem Step.refl : Step c H c H := ⟨fun _ h => ⟨h, fun e => ⟨e, rfl⟩, fun e => ⟨e, rfl⟩, fun _ e => e⟩⟩
theorem Step.trans (x : Step c H c' H') (y : Step c' H' c2 H2) : Step c H c2 H2 := ⟨fun a h => by
  obtain ⟨h1, f1, o1, i1⟩ := x.at_ a h
  obtain ⟨h2, f2, o2, i2⟩ := y.at_ a h1
  exact ⟨h2, fun e => ⟨(f2 (f1 e).1).1, by rw [(f2 (f1 e).1).2, (f1 e).2]⟩, fun e => ⟨(o2 (o1 e).1).1, by rw [(o2 (o1 e).1).2, (o1 e).2]⟩, fun j e => i2 j (i1 j e)⟩⟩
theorem Step.frz (x : Step c H c' H') (t : ∀ a, c a = .frz → H a ≠ none) : Frz c H c' H' := fun a e => ⟨((x.at_ a (t a e)).2.1 e).1, fun h => ((x.at_ a h).2.1 e).2⟩
/-- only new things -/
def Grow (c : CM) (H : Hp) (c' : CM) (H' : Hp) : Prop := ∀ a, H a ≠ none → c' a = c a ∧ H' a = H a
theorem Grow.refl : Grow c H c H := fun _ _ => ⟨rfl, rfl⟩
theorem Grow.trans (x : Grow c H c' H') (y : Grow c' H' c2 H2) : Grow c H c2 H2 := fun a h => by
  obtain ⟨a1, a2⟩ := x a h
  obtain ⟨b1, b2⟩ := y a (by rw [a2]; exact h)
  exact ⟨b1.trans a1, b2.trans a2⟩
theorem Grow.step (x : Grow c H c' H') : Step c H c' H' := ⟨fun a h => by
  obtain ⟨e, f⟩ := x a h
  exact ⟨by rw [f]; exact h, fun q => ⟨e.trans q, f⟩, fun q => ⟨e.trans q, f⟩, fun _ q => e.trans q⟩⟩
def cset (c : CM) (p : Addr) (k : Col) : CM := fun a => if a = p then k else c a
theorem cset_same {p : Addr} {k : Col} : cset c p k p = k := by simp [cset]
theorem cset_ne {p a : Addr} {k : Col} (h : a ≠ p) : cset c p k a = c a := by simp [cset, h]
theorem Grow.new {p : Addr} {k : Col} {o : HO} (h : H p = none) : Grow c H (cset c p k) (upd H p o) := fun a ha => by
  have : a ≠ p := fun e => ha (by rw [e]; exact h)
  exact ⟨cset_ne this, upd_ne this⟩
theorem Step.recol {p : Addr} {k : Col} (h : H p ≠ none → (c p = k ∨ ∃ i, c p = .own i)) : Step c H (cset c p k) H := ⟨fun a ha => by
  by_cases e : a = p
  · subst e
    rw [cset_same]
    rcases h ha with q | ⟨i, q⟩
    · rw [← q]; exact ⟨ha, fun e => ⟨e, rfl⟩, fun e => ⟨e, rfl⟩, fun _ e => e⟩
    · rw [q]; exact ⟨ha, (fun e => by cases e), (fun e => by cases e), (fun _ e => by cases e)⟩
  · rw [cset_ne e]; exact ⟨ha, fun e => ⟨e, rfl⟩, fun e => ⟨e, rfl⟩, fun _ e => e⟩⟩
end

/-! ### owned things, slots -/
inductive O where
  | lst (ds : List D)
  | dic (ks : List Str) (ds : List D)
  | obj (C : Str) (ks : List Str) (ds : List D)
instance : Inhabited O := ⟨.lst []⟩
def O.toD : O → D
  | .lst ds => .lst ds
  | .dic ks ds => .dic ks ds
  | .obj C ks ds => .obj C ks ds
def OAt (K : PySem.W.Frag) (c : CM) (H : Hp) (a : Addr) : O → Prop
  | .lst ds => ∃ xs, H a = some (.lst xs) ∧ FzA K c H xs ds
  | .dic ks ds => ∃ kvs, H a = some (.dK kvs) ∧ kvs.map (·.1) = ks.map Sum.inr ∧ FzA K c H (kvs.map (·.2)) ds
  | .obj C ks ds => ∃ dx fs, H a = some (.ins (He.ga K C) dx fs) ∧ fs.map (·.1) = ks ∧ FzA K c H (fs.map (·.2)) ds
section
variable {K : PySem.W.Frag} {c c' c2 : CM} {H H' H2 : Hp} {a : Addr} {o : O}
theorem OAt.some (h : OAt K c H a o) : H a ≠ none := by
  cases o with
  | lst ds => obtain ⟨xs, h, g⟩ := h; rw [h]; simp
  | dic ks ds => obtain ⟨xs, h, q, g⟩ := h; rw [h]; simp
  | obj C ks ds => obtain ⟨dx, xs, h, q, g⟩ := h; rw [h]; simp
theorem OAt.mono (f : Frz c H c' H') (e : H' a = H a) (h : OAt K c H a o) : OAt K c' H' a o := by
  cases o with
  | lst ds => obtain ⟨xs, h, g⟩ := h; exact ⟨xs, e.trans h, g.mono f⟩
  | dic ks ds => obtain ⟨xs, h, q, g⟩ := h; exact ⟨xs, e.trans h, q, g.mono f⟩
  | obj C ks ds => obtain ⟨dx, xs, h, q, g⟩ := h; exact ⟨dx, xs, e.trans h, q, g.mono f⟩
/-- what is owned, frozen -/
theorem OAt.freeze (h : OAt K c H a o) (e : c a = .frz) : Fz K c H (.ref a) o.toD := by
  cases o with
  | lst ds => obtain ⟨xs, h, g⟩ := h; exact .lst e h g
  | dic ks ds => obtain ⟨xs, h, q, g⟩ := h; exact .dic e h q rfl g
  | obj C ks ds => obtain ⟨dx, xs, h, q, g⟩ := h; exact .obj e h q rfl g
end
inductive Sl where
  | un | fz (d : D) | own (o : O) | io (o : O)
instance : Inhabited Sl := ⟨.un⟩
abbrev Ev := List Sl
def RepS (K : PySem.W.Frag) (c : CM) (H : Hp) (i : Nat) : Sl → Option V → Prop
  | .un, _ => True
  | .fz d, w => ∃ v, w = some v ∧ Fz K c H v d
  | .own o, w => ∃ a, w = some (.ref a) ∧ c a = .own i ∧ OAt K c H a o
  | .io o, w => ∃ a, w = some (.ref a) ∧ c a = .io i ∧ OAt K c H a o
/-- the heap at the def's entry, the addresses lent to it -/
structure Bs where
  hp : Hp
  io : Nat → Option Addr
/-- B: the heap at the def's entry -/
structure Rep (K : PySem.W.Frag) (B : Bs) (c : CM) (σ : L2.St) (H : Hp) (e : Ev) : Prop where
  unt : ∀ a, H a = none → c a = .oth
  keep : ∀ a, B.hp a ≠ none → H a ≠ none
  new : ∀ a i, c a = .own i → B.hp a = none
  io : ∀ a i, c a = .io i → B.io i = some a
  len : σ.length = e.length
  slot : ∀ i s, e[i]? = some s → ∃ w, σ[i]? = some w ∧ RepS K c H i s w
section
variable {K : PySem.W.Frag} {B : Bs} {c c' c2 : CM} {H H' H2 : Hp} {σ : L2.St} {e : Ev} {i : Nat} {s : Sl} {w : Option V}
theorem RepS.mono (f : Frz c H c' H') (k : ∀ a, H a ≠ none → (c a = .own i ∨ c a = .io i) → c' a = c a ∧ H' a = H a) (h : RepS K c H i s w) : RepS K c' H' i s w := by
  cases s with
  | un => trivial
  | fz d => obtain ⟨v, h, g⟩ := h; exact ⟨v, h, g.mono f⟩
  | own o => obtain ⟨a, h, q, g⟩ := h; obtain ⟨k1, k2⟩ := k a g.some (.inl q); exact ⟨a, h, k1.trans q, g.mono f k2⟩
  | io o => obtain ⟨a, h, q, g⟩ := h; obtain ⟨k1, k2⟩ := k a g.some (.inr q); exact ⟨a, h, k1.trans q, g.mono f k2⟩
theorem Rep.trk (R : Rep K B c σ H e) : ∀ a, c a = .frz → H a ≠ none := fun a h q => by rw [R.unt a q] at h; cases h
/-- only new things, rightly coloured -/
structure Gr (c : CM) (H : Hp) (c' : CM) (H' : Hp) : Prop where
  gr : Grow c H c' H'
  unt : ∀ a, H' a = none → c' a = .oth
  own : ∀ a, H a = none → c' a = .frz ∨ c' a = .oth
theorem Gr.new {p : Addr} {k : Col} {o : HO} (u : ∀ a, H a = none → c a = .oth) (h : H p = none) (hk : k = .frz ∨ k = .oth) : Gr c H (cset c p k) (upd H p o) where
  gr := Grow.new h
  unt a q := by
    by_cases z : a = p
    · subst z; rw [upd_same] at q; cases q
    · rw [upd_ne z] at q; rw [cset_ne z]; exact u a q
  own a q := by
    by_cases z : a = p
    · subst z; rw [cset_same]; exact hk
    · rw [cset_ne z, u a q]; simp
theorem Gr.refl (u : ∀ a, H a = none → c a = .oth) : Gr c H c H := ⟨Grow.refl, u, fun a q => by rw [u a q]; simp⟩
theorem Gr.step (g : Gr c H c' H') : Step c H c' H' := g.gr.step
theorem Rep.grow (R : Rep K B c σ H e) (G : Gr c H c' H') : Rep K B c' σ H' e := by
 have g := G.gr
 have o := G.own
 exact {
  unt := G.unt
  keep := fun a h => by rw [(g a (R.keep a h)).2]; exact R.keep a h
  new := fun a i h => by
    by_cases q : H a = none
    · rcases o a q with z | z <;> (rw [z] at h; cases h)
    · exact R.new a i ((g a q).1 ▸ h)
  io := fun a i h => by
    by_cases q : H a = none
    · rcases o a q with z | z <;> (rw [z] at h; cases h)
    · exact R.io a i ((g a q).1 ▸ h)
  len := R.len
  slot := fun i s h => by
    obtain ⟨w, h1, h2⟩ := R.slot i s h
    exact ⟨w, h1, h2.mono (fun a q => ⟨(g a (R.trk a q)).1.trans q, fun z => (g a z).2⟩) fun a z _ => g a z⟩ }
end
end Sc

set_option Elab.async false
set_option linter.all false
set_option autoImplicit false
set_option maxRecDepth 100000
set_option maxHeartbeats 4000000
namespace Sc
open PySem PySem.Spec PyProof.Rows L2
abbrev Sg := L2.St

/-! ### results -/
structure Xc where
  cls : Str
  val : Option D
inductive Rs (α : Type) where
  | ok (a : α) (e : Ev) | exc (x : Xc) (e : Ev) | stuck
abbrev M (α : Type) := Ev → Rs α
def M.bind {α β : Type} (m : M α) (f : α → M β) : M β := fun e => match m e with
  | .ok a e' => f a e'
  | .exc x e' => .exc x e'
  | .stuck => .stuck
def M.pure {α : Type} (a : α) : M α := fun e => .ok a e
def M.stuck {α : Type} : M α := fun _ => .stuck
def M.opt {α : Type} : Option α → M α
  | some a => M.pure a
  | none => M.stuck
inductive Rv where
  | fz (d : D) | own (o : O) | slot (i : Nat)
/-- an exception's own things -/
def XcR (K : PySem.W.Frag) (c : CM) (H : Hp) (x : Xc) (cls : Value) (dd : Option Addr) : Prop :=
  cls = .ref (He.ga K x.cls) ∧ match x.val with
    | none => True
    | some d => ∃ dx v, dd = some dx ∧ H dx = some (.xd [(("value" : Str), v)]) ∧ c dx = .frz ∧ Fz K c H v d
def RvR (Hs : Hp) (K : PySem.W.Frag) (c : CM) (σ : Sg) (H : Hp) (v : V) : Rv → Prop
  | .fz d => Fz K c H v d
  | .own o => ∃ a, v = .ref a ∧ c a = .oth ∧ Hs a = none ∧ OAt K c H a o
  | .slot i => σ[i]? = some (some v)
def PostE (K : PySem.W.Frag) (B : Bs) (W : WX) (σ : Sg) (c : CM) (H : Hp) (r : Rs Rv) (Q : VK) : Prop := match r with
  | .ok r e' => ∀ c' H' v, Rep K B c' σ H' e' → Step c H c' H' → RvR H K c' σ H' v r → Q v H'
  | .exc x e' => ∀ c' H' cls dd, Rep K B c' σ H' e' → Step c H c' H' → XcR K c' H' x cls dd → W cls dd σ H'
  | .stuck => False
def tE (K : PySem.W.Frag) (B : Bs) (W : WX) (m : M Rv) : TE := fun σ H Q => ∃ c e, Rep K B c σ H e ∧ PostE K B W σ c H (m e) Q
def PostT (K : PySem.W.Frag) (B : Bs) (W : WX) (σ : Sg) (c : CM) (H : Hp) (r : Rs Bool) (Q : Bool → Hp → Prop) : Prop := match r with
  | .ok b e' => ∀ c' H', Rep K B c' σ H' e' → Step c H c' H' → Q b H'
  | .exc x e' => ∀ c' H' cls dd, Rep K B c' σ H' e' → Step c H c' H' → XcR K c' H' x cls dd → W cls dd σ H'
  | .stuck => False
def tT (K : PySem.W.Frag) (B : Bs) (W : WX) (m : M Bool) : TT := fun σ H Q => ∃ c e, Rep K B c σ H e ∧ PostT K B W σ c H (m e) Q
/-- the values of arguments; the fresh ones stand apart -/
inductive RvsR (Hs : Hp) (K : PySem.W.Frag) (c : CM) (σ : Sg) (H : Hp) : List V → List Rv → List Addr → Prop
  | nil : RvsR Hs K c σ H [] [] []
  | fz {v vs d rs as} : Fz K c H v d → RvsR Hs K c σ H vs rs as → RvsR Hs K c σ H (v :: vs) (.fz d :: rs) as
  | own {a o vs rs as} : c a = .oth → Hs a = none → OAt K c H a o → a ∉ as → RvsR Hs K c σ H vs rs as → RvsR Hs K c σ H (.ref a :: vs) (.own o :: rs) (a :: as)
  | slot {v vs i rs as} : σ[i]? = some (some v) → RvsR Hs K c σ H vs rs as → RvsR Hs K c σ H (v :: vs) (.slot i :: rs) as
def PostA (K : PySem.W.Frag) (B : Bs) (W : WX) (σ : Sg) (c : CM) (H : Hp) (r : Rs (List Rv)) (Q : List V → Hp → Prop) : Prop := match r with
  | .ok rs e' => ∀ c' H' vs as, Rep K B c' σ H' e' → Step c H c' H' → RvsR H K c' σ H' vs rs as → Q vs H'
  | .exc x e' => ∀ c' H' cls dd, Rep K B c' σ H' e' → Step c H c' H' → XcR K c' H' x cls dd → W cls dd σ H'
  | .stuck => False
def tA (K : PySem.W.Frag) (B : Bs) (W : WX) (m : M (List Rv)) : TA := fun σ H Q => ∃ c e, Rep K B c σ H e ∧ PostA K B W σ c H (m e) Q
structure SE (X : Cx) (B : Bs) (W : WX) (ex : Expr) (m : M Rv) : Prop where
  pe : PE X ex (tE X.K B W m)
structure STt (X : Cx) (B : Bs) (W : WX) (ex : Expr) (m : M Bool) : Prop where
  pt : PT X ex (tT X.K B W m)
structure SA (X : Cx) (B : Bs) (W : WX) (es : List Expr) (m : M (List Rv)) : Prop where
  pa : PA X es (tA X.K B W m)
section
variable {X : Cx} {K : PySem.W.Frag} {B : Bs} {W : WX} {σ : Sg} {c c' c2 : CM} {H H' H2 Hs : Hp} {e e' : Ev}
theorem PE.imp {ex : Expr} {t t' : TE} (h : PE X ex t) (i : ∀ σ H Q, t' σ H Q → t σ H Q) : PE X ex t' := ⟨fun pins s σ H Q I q => h.run pins s σ H Q I (i σ H Q q)⟩
theorem PT.imp {ex : Expr} {t t' : TT} (h : PT X ex t) (i : ∀ σ H Q, t' σ H Q → t σ H Q) : PT X ex t' := ⟨fun pins s σ H Q I q => h.run pins s σ H Q I (i σ H Q q)⟩
theorem PW.imp {ex : Expr} {t t' : TT} (h : PW X ex t) (i : ∀ σ H Q, t' σ H Q → t σ H Q) : PW X ex t' := ⟨fun wh pins s σ H Q I q => h.run wh pins s σ H Q I (i σ H Q q)⟩
theorem PA.imp {es : List Expr} {t t' : TA} (h : PA X es t) (i : ∀ σ H Q, t' σ H Q → t σ H Q) : PA X es t' := ⟨fun pos pins s σ H Q I q => h.run pos pins s σ H Q I (i σ H Q q)⟩
theorem PS.imp {st : Stmt} {t t' : TS} (h : PS X st t) (i : ∀ D σ H, t' D σ H → t D σ H) : PS X st t' := ⟨fun pins s σ H Q I q => h.run pins s σ H Q I (i _ σ H q)⟩
theorem PSs.imp {st : List Stmt} {t t' : TS} (h : PSs X st t) (i : ∀ D σ H, t' D σ H → t D σ H) : PSs X st t' := ⟨fun pins s σ H Q I q => h.run pins s σ H Q I (i _ σ H q)⟩

theorem XcR.mono {x : Xc} {cls : Value} {dd : Option Addr} (f : Frz c H c' H') (t : ∀ a, c a = .frz → H a ≠ none) (h : XcR K c H x cls dd) : XcR K c' H' x cls dd := by
  obtain ⟨h1, h2⟩ := h
  refine ⟨h1, ?_⟩
  cases q : x.val with
  | none => trivial
  | some d =>
    rw [q] at h2
    obtain ⟨dx, v, a1, a2, a3, a4⟩ := h2
    exact ⟨dx, v, a1, ((f dx a3).2 (by rw [a2]; simp)).trans a2, (f dx a3).1, a4.mono f⟩
/-- the wish, from further behind -/
theorem PostE.step {r : Rs Rv} {Q : VK} (S : Step c H c' H') (h : PostE K B W σ c H r Q) : PostE K B W σ c' H' r Q := by
  cases r with
  | ok r e' =>
    intro c2 H2 v R S2 rv
    refine h c2 H2 v R (S.trans S2) ?_
    cases r with
    | fz d => exact rv
    | own o => obtain ⟨a, h1, h2, h3, h4⟩ := rv; exact ⟨a, h1, h2, Classical.byContradiction fun z => (S.at_ a z).1 h3, h4⟩
    | slot i => exact rv
  | exc x e' => exact fun c2 H2 cls dd R S2 rx => h c2 H2 cls dd R (S.trans S2) rx
  | stuck => exact h
theorem PostT.step {r : Rs Bool} {Q : Bool → Hp → Prop} (S : Step c H c' H') (h : PostT K B W σ c H r Q) : PostT K B W σ c' H' r Q := by
  cases r with
  | ok r e' => exact fun c2 H2 R S2 => h c2 H2 R (S.trans S2)
  | exc x e' => exact fun c2 H2 cls dd R S2 rx => h c2 H2 cls dd R (S.trans S2) rx
  | stuck => exact h
theorem RvsR.back {vs : List V} {rs : List Rv} {as : List Addr} (S : Step c H c' H') : RvsR H' K c2 σ H2 vs rs as → RvsR H K c2 σ H2 vs rs as := by
  intro h
  induction h with
  | nil => exact .nil
  | fz a _ ih => exact .fz a ih
  | own h1 h2 h3 h4 _ ih => exact .own h1 (Classical.byContradiction fun z => (S.at_ _ z).1 h2) h3 h4 ih
  | slot a _ ih => exact .slot a ih
theorem RvsR.fresh {vs : List V} {rs : List Rv} {as : List Addr} (h : RvsR Hs K c σ H vs rs as) : ∀ a ∈ as, Hs a = none := by
  induction h with
  | nil => simp
  | fz a _ ih => exact ih
  | own h1 h2 h3 h4 _ ih => intro a ha; simp at ha; rcases ha with rfl | ha; exact h2; exact ih a ha
  | slot a _ ih => exact ih
theorem PostA.step {r : Rs (List Rv)} {Q : List V → Hp → Prop} (S : Step c H c' H') (h : PostA K B W σ c H r Q) : PostA K B W σ c' H' r Q := by
  cases r with
  | ok r e' => exact fun c2 H2 vs as R S2 rr => h c2 H2 vs as R (S.trans S2) (rr.back S)
  | exc x e' => exact fun c2 H2 cls dd R S2 rx => h c2 H2 cls dd R (S.trans S2) rx
  | stuck => exact h
/-- what was evaluated, behind more -/
theorem RvR.step {v : V} {r : Rv} (t : ∀ a, c a = .frz → H a ≠ none) (S : Step c H c' H') (h : RvR Hs K c σ H v r) : RvR Hs K c' σ H' v r := by
  cases r with
  | fz d => exact h.mono (S.frz t)
  | own o =>
    obtain ⟨a, h1, h2, h3, h4⟩ := h
    obtain ⟨q1, q2⟩ := (S.at_ a h4.some).2.2.1 h2
    exact ⟨a, h1, q1, h3, h4.mono (S.frz t) q2⟩
  | slot i => exact h
/-- expressions in a row -/
theorem tE.bind {A : M Rv} {f : Rv → M Rv} {Q : VK} {t : V → Hp → Prop} (h : PostE K B W σ c H ((A.bind f) e) Q) (R : Rep K B c σ H e)
    (hf : ∀ c' H' e' v r, Rep K B c' σ H' e' → Step c H c' H' → RvR H K c' σ H' v r → PostE K B W σ c' H' (f r e') Q → t v H') : tE K B W A σ H t := by
  refine ⟨c, e, R, ?_⟩
  unfold M.bind at h
  cases q : A e with
  | ok r e' => rw [q] at h; exact fun c' H' v R' S rv => hf c' H' e' v r R' S rv (h.step S)
  | exc x e' => rw [q] at h; exact h
  | stuck => rw [q] at h; exact h
theorem tE.bindT {A : M Rv} {f : Rv → M Bool} {Q : Bool → Hp → Prop} {t : V → Hp → Prop} (h : PostT K B W σ c H ((A.bind f) e) Q) (R : Rep K B c σ H e)
    (hf : ∀ c' H' e' v r, Rep K B c' σ H' e' → Step c H c' H' → RvR H K c' σ H' v r → PostT K B W σ c' H' (f r e') Q → t v H') : tE K B W A σ H t := by
  refine ⟨c, e, R, ?_⟩
  unfold M.bind at h
  cases q : A e with
  | ok r e' => rw [q] at h; exact fun c' H' v R' S rv => hf c' H' e' v r R' S rv (h.step S)
  | exc x e' => rw [q] at h; exact h
  | stuck => rw [q] at h; exact h
theorem tE.bindA {A : M Rv} {f : Rv → M (List Rv)} {Q : List V → Hp → Prop} {t : V → Hp → Prop} (h : PostA K B W σ c H ((A.bind f) e) Q) (R : Rep K B c σ H e)
    (hf : ∀ c' H' e' v r, Rep K B c' σ H' e' → Step c H c' H' → RvR H K c' σ H' v r → PostA K B W σ c' H' (f r e') Q → t v H') : tE K B W A σ H t := by
  refine ⟨c, e, R, ?_⟩
  unfold M.bind at h
  cases q : A e with
  | ok r e' => rw [q] at h; exact fun c' H' v R' S rv => hf c' H' e' v r R' S rv (h.step S)
  | exc x e' => rw [q] at h; exact h
  | stuck => rw [q] at h; exact h
theorem tT.bind {A : M Bool} {f : Bool → M Rv} {Q : VK} {t : Bool → Hp → Prop} (h : PostE K B W σ c H ((A.bind f) e) Q) (R : Rep K B c σ H e)
    (hf : ∀ c' H' e' b, Rep K B c' σ H' e' → Step c H c' H' → PostE K B W σ c' H' (f b e') Q → t b H') : tT K B W A σ H t := by
  refine ⟨c, e, R, ?_⟩
  unfold M.bind at h
  cases q : A e with
  | ok r e' => rw [q] at h; exact fun c' H' R' S => hf c' H' e' r R' S (h.step S)
  | exc x e' => rw [q] at h; exact h
  | stuck => rw [q] at h; exact h
theorem tT.bindT {A : M Bool} {f : Bool → M Bool} {Q : Bool → Hp → Prop} {t : Bool → Hp → Prop} (h : PostT K B W σ c H ((A.bind f) e) Q) (R : Rep K B c σ H e)
    (hf : ∀ c' H' e' b, Rep K B c' σ H' e' → Step c H c' H' → PostT K B W σ c' H' (f b e') Q → t b H') : tT K B W A σ H t := by
  refine ⟨c, e, R, ?_⟩
  unfold M.bind at h
  cases q : A e with
  | ok r e' => rw [q] at h; exact fun c' H' R' S => hf c' H' e' r R' S (h.step S)
  | exc x e' => rw [q] at h; exact h
  | stuck => rw [q] at h; exact h
theorem tA.bind {A : M (List Rv)} {f : List Rv → M Rv} {Q : VK} {t : List V → Hp → Prop} (h : PostE K B W σ c H ((A.bind f) e) Q) (R : Rep K B c σ H e)
    (hf : ∀ c' H' e' vs rs as, Rep K B c' σ H' e' → Step c H c' H' → RvsR H K c' σ H' vs rs as → PostE K B W σ c' H' (f rs e') Q → t vs H') : tA K B W A σ H t := by
  refine ⟨c, e, R, ?_⟩
  unfold M.bind at h
  cases q : A e with
  | ok r e' => rw [q] at h; exact fun c' H' vs as R' S rv => hf c' H' e' vs r as R' S rv (h.step S)
  | exc x e' => rw [q] at h; exact h
  | stuck => rw [q] at h; exact h

/-! ### what an operand is at the moment -/
def view : Rv → Ev → Option D
  | .fz d, _ => some d
  | .own o, _ => some o.toD
  | .slot i, e => match e[i]? with
    | some (.own o) => some o.toD
    | some (.io o) => some o.toD
    | _ => none
inductive Vw (K : PySem.W.Frag) (c : CM) (H : Hp) (v : V) (d : D) : Prop
  | fz (h : Fz K c H v d)
  | at_ (a : Addr) (o : O) (hv : v = .ref a) (hd : d = o.toD) (h : OAt K c H a o)
theorem view_ok {v : V} {r : Rv} {d : D} (R : Rep K B c σ H e) (h : RvR Hs K c σ H v r) (w : view r e = some d) : Vw K c H v d := by
  cases r with
  | fz d' => cases w; exact .fz h
  | own o => obtain ⟨a, h1, h2, h3, h4⟩ := h; cases w; exact .at_ a o h1 rfl h4
  | slot i =>
    unfold view at w
    cases q : e[i]? with
    | none => simp [q] at w
    | some s =>
      obtain ⟨ww, g1, g2⟩ := R.slot i s q
      have ew : ww = some v := Option.some.inj (g1.symm.trans h)
      subst ew
      cases s with
      | un => simp [q] at w
      | fz d' => simp [q] at w
      | own o =>
        simp [q] at w
        obtain ⟨a, k1, k2, k3⟩ := g2
        exact .at_ a o (Option.some.inj k1) w.symm k3
      | io o =>
        simp [q] at w
        obtain ⟨a, k1, k2, k3⟩ := g2
        exact .at_ a o (Option.some.inj k1) w.symm k3
theorem Vw.list {v : V} {ds : List D} (h : Vw K c H v (.lst ds)) : ∃ a xs, v = .ref a ∧ H a = some (.lst xs) ∧ FzA K c H xs ds := by
  cases h with
  | fz h => cases h with
    | lst h1 h2 h3 => exact ⟨_, _, rfl, h2, h3⟩
  | at_ a o hv hd h => cases o with
    | lst es => cases hd; obtain ⟨xs, h1, h2⟩ := h; exact ⟨a, xs, hv, h1, h2⟩
    | dic ks es => cases hd
    | obj C ks es => cases hd
theorem Vw.tup {v : V} {ds : List D} (h : Vw K c H v (.tup ds)) : ∃ a xs, v = .ref a ∧ SqT K H a xs ∧ FzA K c H xs ds := by
  cases h with
  | fz h => cases h with
    | tup h1 h2 h3 => exact ⟨_, _, rfl, SqT.of h2, h3⟩
    | ktup h2 h3 => obtain ⟨o, its, n, q⟩ := h2; exact ⟨_, _, rfl, .inr ⟨o, its, n, q⟩, h3⟩
  | at_ a o hv hd h => cases o <;> cases hd
theorem Vw.scr {v : V} {ns : List Int} (h : Vw K c H v (.scr ns)) : ∃ a, v = .ref a ∧ SqL K H a (ns.map V.int) := by
  cases h with
  | fz h => cases h with
    | scr h1 h2 => exact ⟨_, rfl, .inl h2⟩
    | kscr h => obtain ⟨o, its, n, q⟩ := h; exact ⟨_, rfl, .inr ⟨o, its, n, q⟩⟩
  | at_ a o hv hd h => cases o <;> cases hd
theorem Vw.int {v : V} {i : Int} (h : Vw K c H v (.int i)) : v = .int i := by
  cases h with
  | fz h => cases h; rfl
  | at_ a o hv hd h => cases o <;> cases hd
theorem Vw.str {v : V} {i : Str} (h : Vw K c H v (.str i)) : v = .str i := by
  cases h with
  | fz h => cases h; rfl
  | at_ a o hv hd h => cases o <;> cases hd
theorem Vw.bl {v : V} {i : Bool} (h : Vw K c H v (.bl i)) : v = .bl i := by
  cases h with
  | fz h => cases h; rfl
  | at_ a o hv hd h => cases o <;> cases hd
theorem Vw.non {v : V} (h : Vw K c H v .non) : v = .non := by
  cases h with
  | fz h => cases h; rfl
  | at_ a o hv hd h => cases o <;> cases hd
theorem Vw.dic {v : V} {ks : List Str} {ds : List D} (h : Vw K c H v (.dic ks ds)) : ∃ a kvs, v = .ref a ∧ H a = some (.dK kvs) ∧ kvs.map (·.1) = ks.map Sum.inr ∧ FzA K c H (kvs.map (·.2)) ds := by
  cases h with
  | fz h => cases h with
    | dic h1 h2 h3 h4 h5 => exact ⟨_, _, rfl, h2, h3, h4 ▸ h5⟩
  | at_ a o hv hd h => cases o with
    | lst es => cases hd
    | dic ks es => cases hd; obtain ⟨kvs, h1, h2, h3⟩ := h; exact ⟨a, kvs, hv, h1, h2, h3⟩
    | obj C ks es => cases hd
theorem Vw.obj {v : V} {C : Str} {ks : List Str} {ds : List D} (h : Vw K c H v (.obj C ks ds)) : ∃ a dx fs, v = .ref a ∧ H a = some (.ins (He.ga K C) dx fs) ∧ fs.map (·.1) = ks ∧ FzA K c H (fs.map (·.2)) ds := by
  cases h with
  | fz h => cases h with
    | obj h1 h2 h3 h4 h5 => exact ⟨_, _, _, rfl, h2, h3, h4 ▸ h5⟩
  | at_ a o hv hd h => cases o with
    | lst es => cases hd
    | dic ks es => cases hd
    | obj C ks es => cases hd; obtain ⟨dx, fs, h1, h2, h3⟩ := h; exact ⟨a, dx, fs, hv, h1, h2, h3⟩
theorem Vw.step {v : V} {d : D} {r : Rv} (t : ∀ a, c a = .frz → H a ≠ none) (S : Grow c H c' H') (h : Vw K c H v d) : Vw K c' H' v d := by
  cases h with
  | fz h => exact .fz (h.mono (S.step.frz t))
  | at_ a o hv hd h => exact .at_ a o hv hd (h.mono (S.step.frz t) (S a h.some).2)

/-! ### freezing -/
def freeze : Rv → Ev → Option (D × Ev)
  | .fz d, e => some (d, e)
  | .own o, e => some (o.toD, e)
  | .slot i, e => match e[i]? with
    | some (.own o) => some (o.toD, e.set i (.fz o.toD))
    | some (.fz d) => some (d, e)
    | _ => none
theorem Rep.set_slot {i : Nat} {s : Sl} {w : Option V} (R : Rep K B c σ H e) (hs : RepS K c H i s w) (hi : i < e.length) : Rep K B c (σ.set i w) H (e.set i s) where
  unt := R.unt
  keep := R.keep
  new := R.new
  io := R.io
  len := by rw [List.length_set, List.length_set]; exact R.len
  slot j t h := by
    by_cases q : i = j
    · subst q
      have l : i < σ.length := by rw [R.len]; exact hi
      rw [List.getElem?_set_self hi] at h
      cases h
      exact ⟨w, by rw [List.getElem?_set_self l], hs⟩
    · rw [List.getElem?_set_ne q] at h
      obtain ⟨ww, h1, h2⟩ := R.slot j t h
      exact ⟨ww, by rw [List.getElem?_set_ne q]; exact h1, h2⟩
theorem Rep.set_env {i : Nat} {s : Sl} (R : Rep K B c σ H e) (hs : ∀ w, σ[i]? = some w → RepS K c H i s w) : Rep K B c σ H (e.set i s) where
  unt := R.unt
  keep := R.keep
  new := R.new
  io := R.io
  len := by rw [List.length_set]; exact R.len
  slot j t h := by
    by_cases q : i = j
    · subst q
      rcases Nat.lt_or_ge i e.length with l | l
      · rw [List.getElem?_set_self l] at h
        cases h
        have l2 : i < σ.length := by rw [R.len]; exact l
        exact ⟨σ[i], by simp [l2], hs _ (by simp [l2])⟩
      · rw [List.set_eq_of_length_le l] at h
        rw [List.getElem?_eq_none l] at h
        cases h
    · rw [List.getElem?_set_ne q] at h
      exact R.slot j t h
/-- recolouring one address that no other slot owns -/
theorem Rep.recol {p : Addr} {k : Col} (R : Rep K B c σ H e) (hp : H p ≠ none) (h0 : c p ≠ .frz) (h1 : ∀ i s, e[i]? = some s → (∀ o, s ≠ .un → s = .own o → c p ≠ .own i) ∧ (∀ o, s = .io o → c p ≠ .io i)) (hk : ∀ i, k ≠ .own i ∧ k ≠ .io i) : Rep K B (cset c p k) σ H e where
  unt a h := by
    by_cases q : a = p
    · subst q; exact absurd h hp
    · rw [cset_ne q]; exact R.unt a h
  keep := R.keep
  new a i h := by
    by_cases q : a = p
    · subst q; rw [cset_same] at h; exact absurd h (hk i).1
    · rw [cset_ne q] at h; exact R.new a i h
  io a i h := by
    by_cases q : a = p
    · subst q; rw [cset_same] at h; exact absurd h (hk i).2
    · rw [cset_ne q] at h; exact R.io a i h
  len := R.len
  slot i s h := by
    obtain ⟨w, g1, g2⟩ := R.slot i s h
    refine ⟨w, g1, ?_⟩
    have fr : Frz c H (cset c p k) H := fun a ha => ⟨by rw [cset_ne (fun z => h0 (by rw [← z]; exact ha))]; exact ha, fun _ => rfl⟩
    cases s with
    | un => trivial
    | fz d => obtain ⟨v, a1, a2⟩ := g2; exact ⟨v, a1, a2.mono fr⟩
    | own o =>
      obtain ⟨a, a1, a2, a3⟩ := g2
      have na : a ≠ p := fun z => (h1 i _ h).1 o (by simp) rfl (by rw [← z]; exact a2)
      exact ⟨a, a1, by rw [cset_ne na]; exact a2, a3.mono fr rfl⟩
    | io o =>
      obtain ⟨a, a1, a2, a3⟩ := g2
      have na : a ≠ p := fun z => (h1 i _ h).2 o rfl (by rw [← z]; exact a2)
      exact ⟨a, a1, by rw [cset_ne na]; exact a2, a3.mono fr rfl⟩
end
end Sc

set_option Elab.async false
set_option linter.all false
set_option autoImplicit false
set_option maxRecDepth 100000
set_option maxHeartbeats 4000000
namespace Sc
open PySem PySem.Spec PyProof.Rows L2
section
variable {X : Cx} {K : PySem.W.Frag} {B : Bs} {W : WX} {σ : Sg} {c c' c2 c0 : CM} {H H' H2 Hs H0 : Hp} {e e' : Ev}

/-! ### freezing -/
theorem Step.recolF {p : Addr} {k : Col} (S : Step c0 H0 c H) (h : H0 p ≠ none → ∃ i, c p = .own i) : Step c0 H0 (cset c p k) H := ⟨fun a ha => by
  obtain ⟨h1, h2, h3, h4⟩ := S.at_ a ha
  by_cases q : a = p
  · subst q
    obtain ⟨i, z⟩ := h ha
    refine ⟨h1, fun g => ?_, fun g => ?_, fun j g => ?_⟩
    · rw [(h2 g).1] at z; cases z
    · rw [(h3 g).1] at z; cases z
    · rw [h4 j g] at z; cases z
  · rw [cset_ne q]; exact ⟨h1, h2, h3, h4⟩⟩
theorem frz_recol {p : Addr} {k : Col} (h : c p ≠ .frz ∨ k = .frz) : Frz c H (cset c p k) H := fun a ha => ⟨by
  by_cases q : a = p
  · subst q; rw [cset_same]; rcases h with h | h; exact absurd ha h; exact h
  · rw [cset_ne q]; exact ha, fun _ => rfl⟩
theorem Rep.un_recol {p : Addr} {i : Nat} {k : Col} (R : Rep K B c σ H e) (hc : c p = .own i) (hp : H p ≠ none) (hk : ∀ i, k ≠ .own i ∧ k ≠ .io i) : Rep K B (cset c p k) σ H (e.set i .un) := by
  refine (R.set_env (i := i) (s := .un) fun _ _ => trivial).recol hp (by rw [hc]; simp) (fun j s hj => ⟨fun o _ hs => ?_, fun o hs => by rw [hc]; simp⟩) hk
  rw [hc]
  intro z
  cases z
  subst hs
  rw [List.getElem?_set] at hj
  simp at hj
theorem slot_at {i : Nat} {s : Sl} {v : V} (R : Rep K B c σ H e) (q : e[i]? = some s) (h : σ[i]? = some (some v)) : RepS K c H i s (some v) := by
  obtain ⟨ww, g1, g2⟩ := R.slot i s q
  have ew : ww = some v := Option.some.inj (g1.symm.trans h)
  subst ew
  exact g2
theorem freeze_ok {v : V} {r : Rv} {d : D} (R : Rep K B c σ H e) (S : Step c0 H0 c H) (h : RvR H0 K c σ H v r) (w : freeze r e = some (d, e')) :
    ∃ c', Rep K B c' σ H e' ∧ Step c0 H0 c' H ∧ Fz K c' H v d ∧ Frz c H c' H ∧ ∀ a, c a = .oth → (∀ o, r = .own o → v ≠ .ref a) → c' a = .oth := by
  cases r with
  | fz d' => cases w; exact ⟨c, R, S, h, Frz.refl, fun _ q _ => q⟩
  | own o =>
    obtain ⟨a, rfl, h2, h3, h4⟩ := h
    cases w
    have f : Frz c H (cset c a .frz) H := frz_recol (.inr rfl)
    refine ⟨cset c a .frz, R.recol h4.some (by rw [h2]; simp) (fun i s _ => ⟨fun o _ _ => by rw [h2]; simp, fun o _ => by rw [h2]; simp⟩) (fun i => by simp), S.recolF (fun z => absurd h3 z), (h4.mono f rfl).freeze cset_same, f, fun b q n => ?_⟩
    rw [cset_ne (fun z => n o rfl (by rw [z]))]; exact q
  | slot i =>
    unfold freeze at w
    cases q : e[i]? with
    | none => simp [q] at w
    | some s =>
      have g2 := slot_at R q h
      cases s with
      | un => simp [q] at w
      | io o => simp [q] at w
      | fz d' =>
        simp [q] at w
        obtain ⟨rfl, rfl⟩ := w
        obtain ⟨v', k1, k2⟩ := g2
        cases k1
        exact ⟨c, R, S, k2, Frz.refl, fun _ q _ => q⟩
      | own o =>
        simp [q] at w
        obtain ⟨rfl, rfl⟩ := w
        obtain ⟨a, k1, k2, k3⟩ := g2
        cases k1
        have f : Frz c H (cset c a .frz) H := frz_recol (.inr rfl)
        have fz : Fz K (cset c a .frz) H (.ref a) o.toD := (k3.mono f rfl).freeze cset_same
        have R1 : Rep K B (cset c a .frz) σ H (e.set i .un) := R.un_recol k2 k3.some (fun i => by simp)
        have R2 := R1.set_env (i := i) (s := .fz o.toD) fun w hw => ⟨.ref a, by rw [h] at hw; cases hw; rfl, fz⟩
        rw [List.set_set] at R2
        refine ⟨cset c a .frz, R2, S.recolF (fun _ => ⟨i, k2⟩), fz, f, fun b q n => ?_⟩
        rw [cset_ne (fun z => by rw [z, k2] at q; cases q)]; exact q
def freezeAll : List Rv → Ev → Option (List D × Ev)
  | [], e => some ([], e)
  | r :: rs, e => match freeze r e with
    | some (d, e1) => match freezeAll rs e1 with
      | some (ds, e2) => some (d :: ds, e2)
      | none => none
    | none => none
theorem RvsR.recol {vs : List V} {rs : List Rv} {as : List Addr} (f : Frz c H c' H) (o : ∀ a ∈ as, c a = .oth → c' a = .oth) (h : RvsR Hs K c σ H vs rs as) : RvsR Hs K c' σ H vs rs as := by
  induction h with
  | nil => exact .nil
  | fz a _ ih => exact .fz (a.mono f) (ih o)
  | own h1 h2 h3 h4 _ ih => exact .own (o _ (by simp) h1) h2 (h3.mono f rfl) h4 (ih fun a ha => o a (by simp [ha]))
  | slot a _ ih => exact .slot a (ih o)
theorem freezeAll_ok {vs : List V} {rs : List Rv} {as : List Addr} : ∀ {c : CM} {e e' : Ev} {ds : List D}, Rep K B c σ H e → Step c0 H0 c H → RvsR H0 K c σ H vs rs as → freezeAll rs e = some (ds, e') →
    ∃ c', Rep K B c' σ H e' ∧ Step c0 H0 c' H ∧ FzA K c' H vs ds ∧ Frz c H c' H := by
  intro c e e' ds R S h
  induction rs generalizing vs as c e e' ds with
  | nil => intro w; cases h; cases w; exact ⟨c, R, S, .nil, Frz.refl⟩
  | cons r rs ih =>
    intro w
    unfold freezeAll at w
    cases q : freeze r e with
    | none => rw [q] at w; cases w
    | some p =>
      obtain ⟨d, e1⟩ := p
      rw [q] at w
      dsimp only at w
      cases q2 : freezeAll rs e1 with
      | none => rw [q2] at w; cases w
      | some p2 =>
        obtain ⟨ds2, e2⟩ := p2
        rw [q2] at w
        obtain ⟨rfl, rfl⟩ : d :: ds2 = ds ∧ e2 = e' := by simpa using w
        have go : ∀ {v : V} {vs' : List V} {as' : List Addr}, RvR H0 K c σ H v r → RvsR H0 K c σ H vs' rs as' → (∀ a ∈ as', ∀ o, r = .own o → v ≠ .ref a) → ∃ c', Rep K B c' σ H e2 ∧ Step c0 H0 c' H ∧ FzA K c' H (v :: vs') (d :: ds2) ∧ Frz c H c' H := by
          intro v vs' as' hv hr hn
          obtain ⟨c1, R1, S1, F1, f1, o1⟩ := freeze_ok R S hv q
          obtain ⟨c2, R2, S2, F2, f2⟩ := ih R1 S1 (hr.recol f1 fun a ha z => o1 a z (hn a ha)) q2
          exact ⟨c2, R2, S2, .cons (F1.mono f2) F2, fun a ha => ⟨(f2 a (f1 a ha).1).1, fun _ => rfl⟩⟩
        cases h with
        | fz a hr => exact go a hr fun b hb o z => by cases z
        | own h1 h2 h3 h4 hr => exact go ⟨_, rfl, h1, h2, h3⟩ hr fun b hb o _ z => by cases z; exact h4 hb
        | slot a hr => exact go a hr fun b hb o z => by cases z
end
end Sc

set_option Elab.async false
set_option linter.all false
set_option autoImplicit false
set_option maxRecDepth 100000
set_option maxHeartbeats 4000000
namespace Sc
open PySem PySem.Spec PyProof.Rows L2
/-- a new result, no slot -/
def RvN (Hs : Hp) (K : PySem.W.Frag) (c : CM) (H : Hp) (v : V) : Rv → Prop
  | .fz d => Fz K c H v d
  | .own o => ∃ a, v = .ref a ∧ c a = .oth ∧ Hs a = none ∧ OAt K c H a o
  | .slot _ => False
abbrev Unt (c : CM) (H : Hp) : Prop := ∀ a, H a = none → c a = .oth
section
variable {X : Cx} {K : PySem.W.Frag} {B : Bs} {W : WX} {σ : Sg} {c c' c2 c0 : CM} {H H' H2 Hs H0 : Hp} {e e' : Ev}
theorem RvN.rvr {v : V} {r : Rv} (h : RvN Hs K c H v r) : RvR Hs K c σ H v r := by
  cases r with
  | fz d => exact h
  | own o => exact h
  | slot i => exact h.elim
/-- a slot's name -/
def nameM (i : Nat) : M Rv := fun e => match e[i]? with
  | some (.fz d) => .ok (.fz d) e
  | some (.own _) => .ok (.slot i) e
  | some (.io _) => .ok (.slot i) e
  | _ => .stuck
def constM (d : D) : M Rv := fun e => .ok (.fz d) e
theorem se_name {i : Nat} {ex : Expr} (h : PE X ex (tVar i)) : SE X B W ex (nameM i) := ⟨PE.imp h fun σ H Q ⟨c, e, R, p⟩ => by
  unfold nameM at p
  cases q : e[i]? with
  | none => rw [q] at p; exact p.elim
  | some s =>
    rw [q] at p
    obtain ⟨w, h1, h2⟩ := R.slot i s q
    cases s with
    | un => exact p.elim
    | fz d => obtain ⟨v, rfl, hv⟩ := h2; exact ⟨v, h1, p c H v R Step.refl hv⟩
    | own o => obtain ⟨a, rfl, ha⟩ := h2; exact ⟨_, h1, p c H _ R Step.refl h1⟩
    | io o => obtain ⟨a, rfl, ha⟩ := h2; exact ⟨_, h1, p c H _ R Step.refl h1⟩⟩
/-- a value without an object -/
def flat : V → D → Prop
  | .non, .non => True
  | .bl a, .bl b => a = b
  | .int a, .int b => a = b
  | .str a, .str b => a = b
  | _, _ => False
theorem flat.fz {v : V} {d : D} (h : flat v d) : Fz K c H v d := by
  cases v <;> cases d <;> first | (cases h; constructor) | exact h.elim
theorem se_const {ex : Expr} {v : V} {d : D} (h : PE X ex (tC v)) (f : flat v d) : SE X B W ex (constM d) := ⟨PE.imp h fun σ H Q ⟨c, e, R, p⟩ => p c H v R Step.refl f.fz⟩
/-- a tuple of the module -/
theorem se_ktup {ex : Expr} {a : Addr} {xs : List V} {ds : List D} (h : PE X ex (tC (.ref a))) (k : KT X.K a xs) (f : ∀ c H, FzA X.K c H xs ds) : SE X B W ex (constM (.tup ds)) :=
  ⟨PE.imp h fun σ H Q ⟨c, e, R, p⟩ => p c H _ R Step.refl (.ktup k (f _ _))⟩

/-! ### operators of two views -/
def opM (f : D → D → Option Rv) (A C : M Rv) : M Rv := A.bind fun ra => C.bind fun rb => fun e => match view ra e with
  | some a => match view rb e with
    | some b => match f a b with
      | some r => .ok r e
      | none => .stuck
    | none => .stuck
  | none => .stuck
def OpF (X : Cx) (f : D → D → Option Rv) (r : R2) : Prop := ∀ (c : CM) (H : Hp) (x y : V) (a b : D) (rv : Rv) (Q : VK), Unt c H → Vw X.K c H x a → Vw X.K c H y b → f a b = some rv →
  (∀ c' H' v, Gr c H c' H' → RvN H X.K c' H' v rv → Q v H') → r x y H Q
theorem tOp_of {r : R2} {f : D → D → Option Rv} {A C : M Rv} {Q : VK} (hf : OpF X f r) (h : tE X.K B W (opM f A C) σ H Q) : tOp r (tE X.K B W A) (tE X.K B W C) σ H Q := by
  obtain ⟨c, e, R, p⟩ := h
  refine tE.bind p R fun c1 H1 e1 v1 r1 R1 S1 q1 p1 => tE.bind p1 R1 fun c2 H2 e2 v2 r2 R2 S2 q2 p2 => ?_
  have q1' := q1.step R1.trk S2
  cases w1 : view r1 e2 with
  | none => rw [w1] at p2; exact p2.elim
  | some a =>
    rw [w1] at p2
    dsimp only at p2
    cases w2 : view r2 e2 with
    | none => rw [w2] at p2; exact p2.elim
    | some b =>
      rw [w2] at p2
      dsimp only at p2
      cases w3 : f a b with
      | none => rw [w3] at p2; exact p2.elim
      | some rv =>
        rw [w3] at p2
        exact hf c2 H2 v1 v2 a b rv Q R2.unt (view_ok R2 q1' w1) (view_ok R2 q2 w2) w3 fun c3 H3 v g n => p2 c3 H3 v (R2.grow g) g.step n.rvr
theorem se_op {op : Operator} {a b : Expr} {pos : Pos} {r : R2} {f : D → D → Option Rv} {A C : M Rv} (ho : OpR X (binaryOp op) r) (hf : OpF X f r) (ha : SE X B W a A) (hb : SE X B W b C) : SE X B W (.BinOp a op b pos) (opM f A C) :=
  ⟨PE.imp (pe_op ho ha.pe hb.pe) fun σ H Q h => tOp_of hf h⟩
theorem se_cmp {op : CmpOp} {a b : Expr} {pos : Pos} {r : R2} {f : D → D → Option Rv} {A C : M Rv} (ho : OpR X (compareOp op) r) (hf : OpF X f r) (ha : SE X B W a A) (hb : SE X B W b C) (hm : behindInMarks op b = false) : SE X B W (.Compare a [op] [b] pos) (opM f A C) :=
  ⟨PE.imp (pe_cmpR ho ha.pe hb.pe hm) fun σ H Q h => tOp_of hf h⟩
theorem OpF.or {f g : D → D → Option Rv} {r s : R2} (h : OpF X f r) (k : OpF X g s) : OpF X (fun a b => match f a b with | some z => some z | none => g a b) (fun x y H Q => r x y H Q ∨ s x y H Q) := by
  intro c H x y a b rv Q u va vb hw hq
  cases q : f a b with
  | some z => simp only [q] at hw; cases hw; exact .inl (h c H x y a b rv Q u va vb q hq)
  | none => simp only [q] at hw; exact .inr (k c H x y a b rv Q u va vb hw hq)
def orF (f g : D → D → Option Rv) : D → D → Option Rv := fun a b => match f a b with | some z => some z | none => g a b
/-- ints to an int -/
def iiF (C : Int → Int → Bool) (g : Int → Int → D) : D → D → Option Rv
  | .int i, .int j => if C i j then some (.fz (g i j)) else none
  | _, _ => none
theorem opf_ii {C : Int → Int → Bool} {P : Int → Int → Prop} {g : Int → Int → D} {gv : Int → Int → V} (hP : ∀ i j, C i j = true → P i j) (hg : ∀ i j, flat (gv i j) (g i j)) : OpF X (iiF C g) (rI P gv) := by
  intro c H x y a b rv Q u va vb hw hq
  unfold iiF at hw
  split at hw
  · split at hw
    · cases hw
      rename_i i j hc
      exact ⟨i, j, va.int, vb.int, hP _ _ hc, hq c H _ (Gr.refl u) (hg i j).fz⟩
    · cases hw
  · cases hw
theorem opf_ii0 {g : Int → Int → D} {gv : Int → Int → V} (hg : ∀ i j, flat (gv i j) (g i j)) : OpF X (iiF (fun _ _ => true) g) (rI0 gv) := by
  intro c H x y a b rv Q u va vb hw hq
  unfold iiF at hw
  split at hw
  · simp only [if_true] at hw
    cases hw
    exact ⟨_, _, va.int, vb.int, hq c H _ (Gr.refl u) (hg _ _).fz⟩
  · cases hw
def subF := iiF (fun _ _ => true) fun i j => .int (i - j)
theorem opf_sub : OpF X subF (rI0 fun i j => .int (i - j)) := opf_ii0 fun _ _ => rfl
def mulF := iiF (fun i j => (decide (-(2 ^ 64) < i) && decide (i < 2 ^ 64)) || (decide (-(2 ^ 64) < j) && decide (j < 2 ^ 64))) fun i j => .int (i * j)
theorem opf_mul : OpF X mulF (rI CMul fun i j => .int (i * j)) := opf_ii (fun i j h => by simp at h; exact h) fun _ _ => rfl
def fdivF := iiF (fun i j => decide (0 < j) && decide (j < 1073741824)) fun i j => .int (i / j)
theorem opf_fdiv : OpF X fdivF (rI CDiv fun i j => .int (i / j)) := opf_ii (fun i j h => by simp at h; exact h) fun _ _ => rfl
def modF := iiF (fun i j => decide (0 < j)) fun i j => .int (i % j)
theorem opf_mod : OpF X modF (rI (fun _ j => 0 < j) fun i j => .int (i % j)) := opf_ii (fun i j h => by simpa using h) fun _ _ => rfl
def powF := iiF (fun i j => decide (0 ≤ j) && (decide (j ≤ 1000000) && decide (i.natAbs < 2 ^ 64))) fun i j => .int (i ^ j.toNat)
theorem opf_pow : OpF X powF (rI CPow fun i j => .int (i ^ j.toNat)) := opf_ii (fun i j h => by simp at h; exact h) fun _ _ => rfl
def ltF := iiF (fun _ _ => true) fun i j => .bl (decide (i < j))
theorem opf_lt : OpF X ltF (rI0 fun i j => .bl (decide (i < j))) := opf_ii0 fun _ _ => rfl
def leF := iiF (fun _ _ => true) fun i j => .bl (decide (i ≤ j))
theorem opf_le : OpF X leF (rI0 fun i j => .bl (decide (i ≤ j))) := opf_ii0 fun _ _ => rfl
def gtF := iiF (fun _ _ => true) fun i j => .bl (decide (j < i))
theorem opf_gt : OpF X gtF (rI0 fun i j => .bl (decide (j < i))) := opf_ii0 fun _ _ => rfl
def geF := iiF (fun _ _ => true) fun i j => .bl (decide (j ≤ i))
theorem opf_ge : OpF X geF (rI0 fun i j => .bl (decide (j ≤ i))) := opf_ii0 fun _ _ => rfl
/-- + -/
def addF : D → D → Option Rv
  | .int i, .int j => some (.fz (.int (i + j)))
  | .str i, .str j => if i.length + j.length ≤ sizeLine then some (.fz (.str (i ++ j))) else none
  | .lst xs, .lst ys => if xs.length + ys.length ≤ sizeLine then some (.own (.lst (xs ++ ys))) else none
  | .tup xs, .tup ys => if xs.length + ys.length ≤ sizeLine then some (.fz (.tup (xs ++ ys))) else none
  | _, _ => none
def rAddAll (K : PySem.W.Frag) : R2 := fun x y H Q => rI0 (fun i j => .int (i + j)) x y H Q ∨ (fun x y H Q => ((fun x y H Q => ∃ i j, x = .str i ∧ y = .str j ∧ i.length + j.length ≤ sizeLine ∧ Q (.str (i ++ j)) H) : R2) x y H Q ∨ (fun x y H Q => rCat x y H Q ∨ rCatA K x y H Q : R2) x y H Q : R2) x y H Q
theorem op_addAll : OpR X (binaryOp .Add) (rAddAll X.K) := OpR.or op_add (OpR.or op_add_str (OpR.or op_cat op_catA))
theorem SqT.keepU {a p : Addr} {o : HO} {xs : List V} (h : SqT K H a xs) (hp : H p = none) : SqT K (upd H p o) a xs := by
  rcases h with h | h
  · rcases h with h | ⟨ob, h⟩
    · exact .inl (.inl (by rw [upd_ne (ne_of_none h hp)]; exact h))
    · exact .inl (.inr ⟨ob, by rw [upd_ne (ne_of_none h hp)]; exact h⟩)
  · exact .inr h
theorem FzA.new {p : Addr} {k : Col} {o : HO} {xs : List V} {ds : List D} (u : Unt c H) (hp : H p = none) (h : FzA K c H xs ds) : FzA K (cset c p k) (upd H p o) xs ds :=
  h.mono fun a ha => by
    have n : a ≠ p := fun z => by rw [z, u p hp] at ha; cases ha
    exact ⟨by rw [cset_ne n]; exact ha, fun _ => upd_ne n⟩
theorem new_tup {p : Addr} {xs : List V} {ds : List D} (u : Unt c H) (hp : H p = none) (h : FzA K c H xs ds) : Gr c H (cset c p .frz) (upd H p (.tup xs)) ∧ Fz K (cset c p .frz) (upd H p (.tup xs)) (.ref p) (.tup ds) :=
  ⟨Gr.new u hp (by simp), .tup cset_same upd_same (h.new u hp)⟩
theorem new_lst {p : Addr} {xs : List V} {ds : List D} (u : Unt c H) (hp : H p = none) (h : FzA K c H xs ds) : Gr c H (cset c p .oth) (upd H p (.lst xs)) ∧ RvN H K (cset c p .oth) (upd H p (.lst xs)) (.ref p) (.own (.lst ds)) :=
  ⟨Gr.new u hp (by simp), ⟨p, rfl, cset_same, hp, xs, upd_same, h.new u hp⟩⟩
theorem opf_add : OpF X addF (rAddAll X.K) := by
  intro c H x y a b rv Q u va vb hw hq
  unfold addF at hw
  split at hw
  · cases hw
    exact .inl ⟨_, _, va.int, vb.int, hq c H _ (Gr.refl u) (.int _)⟩
  · split at hw
    · cases hw
      rename_i hs
      exact .inr (.inl ⟨_, _, va.str, vb.str, hs, hq c H _ (Gr.refl u) (.str _)⟩)
    · cases hw
  · split at hw
    · cases hw
      rename_i hs
      obtain ⟨p, xs', rfl, h1, h2⟩ := va.list
      obtain ⟨q, ys', rfl, g1, g2⟩ := vb.list
      refine .inr (.inr (.inl ⟨p, q, xs', ys', rfl, rfl, h1, g1, by rw [h2.length, g2.length]; exact hs, fun z hz => ?_⟩))
      obtain ⟨G, N⟩ := new_lst u hz (h2.append g2)
      exact hq _ _ _ G N
    · cases hw
  · split at hw
    · cases hw
      rename_i hs
      obtain ⟨p, xs', rfl, h1, h2⟩ := va.tup
      obtain ⟨q, ys', rfl, g1, g2⟩ := vb.tup
      refine .inr (.inr (.inr ⟨p, q, xs', ys', rfl, rfl, h1, g1, by rw [h2.length, g2.length]; exact hs, fun z => ?_, fun _ z => ?_, fun _ _ z hz => ?_⟩))
      · subst z
        cases h2
        cases vb with
        | fz h => exact hq c H _ (Gr.refl u) h
        | at_ a o hv hd h => cases o <;> cases hd
      · subst z
        cases g2
        cases va with
        | fz h => exact hq c H _ (Gr.refl u) (by rw [List.append_nil]; exact h)
        | at_ a o hv hd h => cases o <;> cases hd
      · obtain ⟨G, N⟩ := new_tup u hz (h2.append g2)
        exact hq _ _ _ G N
    · cases hw
  · cases hw
/-! ### equality -/
mutual
def toPy : D → Option PyData
  | .non => some .none
  | .bl b => some (.bool b)
  | .int i => some (.int i)
  | .str x => some (.str x)
  | .tup ds => (toPyAll ds).map .tuple
  | .lst ds => (toPyAll ds).map .list
  | _ => none
def toPyAll : List D → Option (List PyData)
  | [] => some []
  | d :: ds => match toPy d with
    | some p => (toPyAll ds).map (p :: ·)
    | none => none
end
theorem KT.sqt {a : Addr} {xs : List V} (h : KT K a xs) : SqT K H a xs := .inr h
mutual
theorem Fz.dp : ∀ {d : D} {v : V} {p : PyData}, Fz K c H v d → toPy d = some p → Dp K H v p
  | .non, _, p, h, e => by cases h; simp [toPy] at e; subst e; exact .non
  | .bl b, _, p, h, e => by cases h; simp [toPy] at e; subst e; exact .bl b
  | .int b, _, p, h, e => by cases h; simp [toPy] at e; subst e; exact .int b
  | .str b, _, p, h, e => by cases h; simp [toPy] at e; subst e; exact .str b
  | .tup ds, _, p, h, e => by
    simp [toPy] at e
    obtain ⟨ps, e1, rfl⟩ := e
    cases h with
    | tup a1 a2 a3 => exact .tup (SqT.of a2) (FzA.dp a3 e1)
    | ktup a2 a3 => exact .tup a2.sqt (FzA.dp a3 e1)
  | .lst ds, _, p, h, e => by
    simp [toPy] at e
    obtain ⟨ps, e1, rfl⟩ := e
    cases h with
    | lst a1 a2 a3 => exact .lst (SqL.of a2) (FzA.dp a3 e1)
  | .dic ks ds, _, p, h, e => by simp [toPy] at e
  | .obj C ks ds, _, p, h, e => by simp [toPy] at e
  | .scr ns, _, p, h, e => by simp [toPy] at e
theorem FzA.dp : ∀ {ds : List D} {vs : List V} {ps : List PyData}, FzA K c H vs ds → toPyAll ds = some ps → DpAll K H vs ps
  | [], _, ps, h, e => by cases h; simp [toPyAll] at e; subst e; exact .nil
  | d :: ds, _, ps, h, e => by
    cases h with
    | cons a b =>
      simp only [toPyAll] at e
      cases q : toPy d with
      | none => rw [q] at e; cases e
      | some p =>
        rw [q] at e
        simp at e
        obtain ⟨qs, e1, rfl⟩ := e
        exact .cons (Fz.dp a q) (FzA.dp b e1)
end
theorem Vw.dp {d : D} {v : V} {p : PyData} (h : Vw K c H v d) (e : toPy d = some p) : Dp K H v p := by
  cases h with
  | fz h => exact h.dp e
  | at_ a o hv hd h => cases o with
    | lst ds =>
      subst hv hd
      obtain ⟨xs, h1, h2⟩ := h
      simp [toPy, O.toD] at e
      obtain ⟨ps, e1, rfl⟩ := e
      exact .lst (SqL.of h1) (h2.dp e1)
    | dic ks ds => subst hd; simp [toPy, O.toD] at e
    | obj C ks ds => subst hd; simp [toPy, O.toD] at e
def eqF (a b : D) : Option Bool := match toPy a, toPy b with
  | some p, some q => if SeqAt.shaped p && SeqAt.shaped q then some (PyData.eqv p q) else none
  | _, _ => none
def eqOF (a b : D) : Option Rv := (eqF a b).map fun k => .fz (.bl k)
def neOF (a b : D) : Option Rv := (eqF a b).map fun k => .fz (.bl !k)
theorem eqF_ok {x y : V} {a b : D} {k : Bool} (va : Vw K c H x a) (vb : Vw K c H y b) (h : eqF a b = some k) : ∃ d f, Dp K H x d ∧ Dp K H y f ∧ SeqAt.shaped d = true ∧ SeqAt.shaped f = true ∧ PyData.eqv d f = k := by
  unfold eqF at h
  split at h
  · rename_i p q e1 e2
    split at h
    · rename_i hs
      cases h
      simp at hs
      exact ⟨p, q, va.dp e1, vb.dp e2, hs.1, hs.2, rfl⟩
    · cases h
  · cases h
theorem opf_eq : OpF X eqOF (rEqD X.K) := by
  intro c H x y a b rv Q u va vb hw hq
  unfold eqOF at hw
  cases q : eqF a b with
  | none => rw [q] at hw; cases hw
  | some k =>
    rw [q] at hw
    cases hw
    obtain ⟨d, f, h1, h2, h3, h4, rfl⟩ := eqF_ok va vb q
    exact ⟨d, f, h1, h2, h3, h4, hq c H _ (Gr.refl u) (.bl _)⟩
theorem opf_ne : OpF X neOF (rNeD X.K) := by
  intro c H x y a b rv Q u va vb hw hq
  unfold neOF at hw
  cases q : eqF a b with
  | none => rw [q] at hw; cases hw
  | some k =>
    rw [q] at hw
    cases hw
    obtain ⟨d, f, h1, h2, h3, h4, rfl⟩ := eqF_ok va vb q
    exact ⟨d, f, h1, h2, h3, h4, hq c H _ (Gr.refl u) (.bl _)⟩
/-- is None, is not None -/
def isNF (a b : D) : Option Rv := match a, b with
  | .non, .non => some (.fz (.bl true))
  | _, .non => some (.fz (.bl false))
  | _, _ => none
def isNotNF (a b : D) : Option Rv := match a, b with
  | .non, .non => some (.fz (.bl false))
  | _, .non => some (.fz (.bl true))
  | _, _ => none
theorem Vw.nonIff {v : V} {d : D} (h : Vw K c H v d) : v = .non ↔ d = .non := by
  cases h with
  | fz h => cases h <;> simp
  | at_ a o hv hd h => subst hv hd; cases o <;> simp [O.toD]
theorem opf_isN : OpF X isNF (fun x y H Q => y = .non ∧ Q (.bl (decide (x = .non))) H) := by
  intro c H x y a b rv Q u va vb hw hq
  unfold isNF at hw
  split at hw
  · cases hw
    rw [va.non]
    exact ⟨vb.non, hq c H _ (Gr.refl u) (by rw [decide_eq_true rfl]; exact .bl true)⟩
  · cases hw
    rename_i hn
    exact ⟨vb.non, hq c H _ (Gr.refl u) (by rw [decide_eq_false (fun z => hn (va.nonIff.mp z))]; exact .bl false)⟩
  · cases hw
theorem opf_isNotN : OpF X isNotNF (fun x y H Q => y = .non ∧ Q (.bl (!decide (x = .non))) H) := by
  intro c H x y a b rv Q u va vb hw hq
  unfold isNotNF at hw
  split at hw
  · cases hw
    rw [va.non]
    exact ⟨vb.non, hq c H _ (Gr.refl u) (by rw [decide_eq_true rfl]; exact .bl false)⟩
  · cases hw
    rename_i hn
    exact ⟨vb.non, hq c H _ (Gr.refl u) (by rw [decide_eq_false (fun z => hn (va.nonIff.mp z))]; exact .bl true)⟩
  · cases hw
end
end Sc

set_option Elab.async false
set_option linter.all false
set_option autoImplicit false
set_option maxRecDepth 100000
set_option maxHeartbeats 4000000
namespace Sc
open PySem PySem.Spec PyProof.Rows L2
section
variable {X : Cx} {K : PySem.W.Frag} {B : Bs} {W : WX} {σ : Sg} {c c' c2 c0 : CM} {H H' H2 Hs H0 : Hp} {e e' : Ev}
/-! ### truth -/
def viewB (r : Rv) (e : Ev) : Option Bool := match view r e with
  | some (.bl b) => some b
  | _ => none
theorem viewB_ok {v : V} {r : Rv} {b : Bool} (R : Rep K B c σ H e) (h : RvR Hs K c σ H v r) (w : viewB r e = some b) : v = .bl b := by
  unfold viewB at w
  split at w
  · rename_i d q; cases w; exact (view_ok R h q).bl
  · cases w
def andM (A C : M Rv) : M Rv := A.bind fun r e => match viewB r e with
  | some true => C e
  | some false => .ok (.fz (.bl false)) e
  | none => .stuck
def orM (A C : M Rv) : M Rv := A.bind fun r e => match viewB r e with
  | some true => .ok (.fz (.bl true)) e
  | some false => C e
  | none => .stuck
def notM (A : M Rv) : M Rv := A.bind fun r e => match viewB r e with
  | some b => .ok (.fz (.bl !b)) e
  | none => .stuck
variable {a b cc : Expr} {rest : List Expr} {pos : Pos} {A C G : M Rv}
theorem se_one {op : BoolOp} (h : SE X B W a A) : SE X B W (.BoolOp op [a] pos) A := ⟨pe_one h.pe⟩
theorem se_and (ha : SE X B W a A) (hb : SE X B W (.BoolOp .And (b :: rest) pos) C) : SE X B W (.BoolOp .And (a :: b :: rest) pos) (andM A C) :=
  ⟨PE.imp (pe_and ha.pe hb.pe) fun σ H Q ⟨c, e, R, p⟩ => tE.bind p R fun c1 H1 e1 v1 r1 R1 S1 q1 p1 => by
    cases w : viewB r1 e1 with
    | none => rw [w] at p1; exact p1.elim
    | some k =>
      rw [w] at p1
      refine ⟨k, viewB_ok R1 q1 w, ?_⟩
      cases k with
      | true => rw [if_pos rfl]; exact ⟨c1, e1, R1, p1⟩
      | false => rw [if_neg (by simp)]; exact p1 c1 H1 _ R1 Step.refl (.bl false)⟩
theorem se_or (ha : SE X B W a A) (hb : SE X B W (.BoolOp .Or (b :: rest) pos) C) : SE X B W (.BoolOp .Or (a :: b :: rest) pos) (orM A C) :=
  ⟨PE.imp (pe_or ha.pe hb.pe) fun σ H Q ⟨c, e, R, p⟩ => tE.bind p R fun c1 H1 e1 v1 r1 R1 S1 q1 p1 => by
    cases w : viewB r1 e1 with
    | none => rw [w] at p1; exact p1.elim
    | some k =>
      rw [w] at p1
      refine ⟨k, viewB_ok R1 q1 w, ?_⟩
      cases k with
      | true => rw [if_pos rfl]; exact p1 c1 H1 _ R1 Step.refl (.bl true)
      | false => rw [if_neg (by simp)]; exact ⟨c1, e1, R1, p1⟩⟩
theorem se_not (ha : SE X B W a A) : SE X B W (.UnaryOp .Not a pos) (notM A) :=
  ⟨PE.imp (pe_not ha.pe) fun σ H Q ⟨c, e, R, p⟩ => tE.bind p R fun c1 H1 e1 v1 r1 R1 S1 q1 p1 => by
    cases w : viewB r1 e1 with
    | none => rw [w] at p1; exact p1.elim
    | some k =>
      rw [w] at p1
      exact ⟨k, viewB_ok R1 q1 w, p1 c1 H1 _ R1 Step.refl (.bl _)⟩⟩
/-! tests -/
structure SW (X : Cx) (B : Bs) (W : WX) (ex : Expr) (m : M Bool) : Prop where
  pw : PW X ex (tT X.K B W m)
def testM (A : M Rv) : M Bool := A.bind fun r e => match viewB r e with
  | some b => .ok b e
  | none => .stuck
variable {T U : M Bool}
theorem st_val (h : SE X B W a A) (he : ∀ whole, isTrue a X.env whole = (do let v ← whole; standAt a.pos; holding [v] (truthy v)) := by intro _; rfl) : STt X B W a (testM A) :=
  ⟨PT.imp (pt_val h.pe he) fun σ H Q ⟨c, e, R, p⟩ => tE.bindT p R fun c1 H1 e1 v1 r1 R1 S1 q1 p1 => by
    cases w : viewB r1 e1 with
    | none => rw [w] at p1; exact p1.elim
    | some k => rw [w] at p1; exact ⟨k, viewB_ok R1 q1 w, p1 c1 H1 R1 Step.refl⟩⟩
def andT (T U : M Bool) : M Bool := T.bind fun b => if b then U else M.pure false
def orT (T U : M Bool) : M Bool := T.bind fun b => if b then M.pure true else U
def notT (T : M Bool) : M Bool := T.bind fun b => M.pure !b
theorem st_pw (h : SW X B W a T) : STt X B W a T := ⟨h.pw.pt⟩
theorem sw_and1 (h : STt X B W a T) : SW X B W (.BoolOp .And [a] pos) T := ⟨pw_and1 h.pt⟩
theorem sw_or1 (h : STt X B W a T) : SW X B W (.BoolOp .Or [a] pos) T := ⟨pw_or1 h.pt⟩
theorem sw_and (ha : STt X B W a T) (hb : SW X B W (.BoolOp .And (b :: rest) pos) U) : SW X B W (.BoolOp .And (a :: b :: rest) pos) (andT T U) :=
  ⟨PW.imp (pw_and ha.pt hb.pw) fun σ H Q ⟨c, e, R, p⟩ => tT.bindT p R fun c1 H1 e1 k R1 S1 p1 => by
    cases k with
    | true => rw [if_pos rfl]; exact ⟨c1, e1, R1, p1⟩
    | false => rw [if_neg (by simp)]; exact p1 c1 H1 R1 Step.refl⟩
theorem sw_or (ha : STt X B W a T) (hb : SW X B W (.BoolOp .Or (b :: rest) pos) U) : SW X B W (.BoolOp .Or (a :: b :: rest) pos) (orT T U) :=
  ⟨PW.imp (pw_or ha.pt hb.pw) fun σ H Q ⟨c, e, R, p⟩ => tT.bindT p R fun c1 H1 e1 k R1 S1 p1 => by
    cases k with
    | true => rw [if_pos rfl]; exact p1 c1 H1 R1 Step.refl
    | false => rw [if_neg (by simp)]; exact ⟨c1, e1, R1, p1⟩⟩
theorem st_not (ha : STt X B W a T) : STt X B W (.UnaryOp .Not a pos) (notT T) :=
  ⟨PT.imp (pt_not ha.pt) fun σ H Q ⟨c, e, R, p⟩ => tT.bindT p R fun c1 H1 e1 k R1 S1 p1 => p1 c1 H1 R1 Step.refl⟩
/-- a if t else b -/
def ifM (T : M Bool) (A C : M Rv) : M Rv := T.bind fun k => if k then A else C
theorem se_if (hc : STt X B W cc T) (ha : SE X B W a A) (hb : SE X B W b C) : SE X B W (.IfExp cc a b pos) (ifM T A C) :=
  ⟨PE.imp (pe_ifExp hc.pt ha.pe hb.pe) fun σ H Q ⟨c, e, R, p⟩ => tT.bind p R fun c1 H1 e1 k R1 S1 p1 => by
    cases k with
    | true => rw [if_pos rfl]; exact ⟨c1, e1, R1, p1⟩
    | false => rw [if_neg (by simp)]; exact ⟨c1, e1, R1, p1⟩⟩
/-- a op1 b op2 c -/
def chainM (f g : D → D → Option Rv) (A C G : M Rv) : M Rv := A.bind fun ra => C.bind fun rb => fun e => match view ra e with
  | some a => match view rb e with
    | some b => match f a b with
      | some (.fz (.bl true)) => (G.bind fun rc => fun e2 => match view rb e2 with
        | some b2 => match view rc e2 with
          | some cc => match g b2 cc with
            | some r => .ok r e2
            | none => .stuck
          | none => .stuck
        | none => .stuck) e
      | some (.fz (.bl false)) => .ok (.fz (.bl false)) e
      | _ => .stuck
    | none => .stuck
  | none => .stuck
theorem tChain_of {r r' : R2} {f g : D → D → Option Rv} {Q : VK} (hf : OpF X f r) (hg : OpF X g r') (h : tE X.K B W (chainM f g A C G) σ H Q) : tChain r r' (tE X.K B W A) (tE X.K B W C) (tE X.K B W G) σ H Q := by
  obtain ⟨c, e, R, p⟩ := h
  refine tE.bind p R fun c1 H1 e1 v1 r1 R1 S1 q1 p1 => tE.bind p1 R1 fun c2 H2 e2 v2 r2 R2 S2 q2 p2 => ?_
  have q1' := q1.step R1.trk S2
  cases w1 : view r1 e2 with
  | none => rw [w1] at p2; exact p2.elim
  | some x =>
    rw [w1] at p2
    dsimp only at p2
    cases w2 : view r2 e2 with
    | none => rw [w2] at p2; exact p2.elim
    | some y =>
      rw [w2] at p2
      dsimp only at p2
      split at p2
      · rename_i w3
        refine hf c2 H2 v1 v2 x y _ _ R2.unt (view_ok R2 q1' w1) (view_ok R2 q2 w2) w3 fun c3 H3 v g3 n => ?_
        cases n
        refine ⟨true, rfl, ?_⟩
        rw [if_pos rfl]
        have R3 := R2.grow g3
        refine tE.bind (p2.step g3.step) R3 fun c4 H4 e4 v4 r4 R4 S4 q4 p4 => ?_
        have q2' := (q2.step R2.trk g3.step).step R3.trk S4
        cases w5 : view r2 e4 with
        | none => rw [w5] at p4; exact p4.elim
        | some y2 =>
          rw [w5] at p4
          dsimp only at p4
          cases w6 : view r4 e4 with
          | none => rw [w6] at p4; exact p4.elim
          | some z =>
            rw [w6] at p4
            dsimp only at p4
            cases w7 : g y2 z with
            | none => rw [w7] at p4; exact p4.elim
            | some rv =>
              rw [w7] at p4
              exact hg c4 H4 v2 v4 y2 z rv Q R4.unt (view_ok R4 q2' w5) (view_ok R4 q4 w6) w7 fun c5 H5 v g5 n5 => p4 c5 H5 v (R4.grow g5) g5.step n5.rvr
      · rename_i w3
        refine hf c2 H2 v1 v2 x y _ _ R2.unt (view_ok R2 q1' w1) (view_ok R2 q2 w2) w3 fun c3 H3 v g3 n => ?_
        cases n
        refine ⟨false, rfl, ?_⟩
        rw [if_neg (by simp)]
        exact p2 c3 H3 _ (R2.grow g3) g3.step (.bl false)
      · exact p2.elim

theorem se_chain {op op' : CmpOp} {r r' : R2} {f g : D → D → Option Rv} (ho : OpR X (compareOp op) r) (hf : OpF X f r) (ho' : OpR X (compareOp op') r') (hg : OpF X g r') (ha : SE X B W a A) (hb : SE X B W b C) (hc : SE X B W cc G)
    (hm : lastMarks [op, op'] [b, cc] = false := by with_unfolding_all rfl) : SE X B W (.Compare a [op, op'] [b, cc] pos) (chainM f g A C G) := by
  exact ⟨PE.imp (pe_chain ho ho' ha.pe hb.pe hc.pe hm) fun σ H Q h => tChain_of hf hg h⟩
theorem st_chain {op op' : CmpOp} {r r' : R2} {f g : D → D → Option Rv} (ho : OpR X (compareOp op) r) (hf : OpF X f r) (ho' : OpR X (compareOp op') r') (hg : OpF X g r') (ha : SE X B W a A) (hb : SE X B W b C) (hc : SE X B W cc G)
    (hm : lastMarks [op, op'] [b, cc] = false := by with_unfolding_all rfl) : STt X B W (.Compare a [op, op'] [b, cc] pos) (testM (chainM f g A C G)) :=
  ⟨PT.imp (pt_chain ho ho' ha.pe hb.pe hc.pe hm) fun σ H Q ⟨c, e, R, p⟩ => by
    have h : tE X.K B W (chainM f g A C G) σ H fun v H1 => ∃ k, v = .bl k ∧ Q k H1 := tE.bindT p R fun c1 H1 e1 v1 r1 R1 S1 q1 p1 => by
      cases w : viewB r1 e1 with
      | none => rw [w] at p1; exact p1.elim
      | some k => rw [w] at p1; exact ⟨k, viewB_ok R1 q1 w, p1 c1 H1 R1 Step.refl⟩
    exact tChain_of hf hg h⟩

theorem st_cmp {op : CmpOp} {r : R2} {f : D → D → Option Rv} (ho : OpR X (compareOp op) r) (hf : OpF X f r) (ha : SE X B W a A) (hb : SE X B W b C) (hm : behindInMarks op b = false) : STt X B W (.Compare a [op] [b] pos) (testM (opM f A C)) :=
  ⟨PT.imp (pt_cmpR ho ha.pe hb.pe hm) fun σ H Q ⟨c, e, R, p⟩ => by
    have h : tE X.K B W (opM f A C) σ H fun v H1 => ∃ k, v = .bl k ∧ Q k H1 := tE.bindT p R fun c1 H1 e1 v1 r1 R1 S1 q1 p1 => by
      cases w : viewB r1 e1 with
      | none => rw [w] at p1; exact p1.elim
      | some k => rw [w] at p1; exact ⟨k, viewB_ok R1 q1 w, p1 c1 H1 R1 Step.refl⟩
    exact tOp_of hf h⟩

/-! ### membership -/
def flatD : D → Bool
  | .non => true | .bl _ => true | .int _ => true | .str _ => true | _ => false
def eqD1 : D → D → Bool
  | .non, .non => true
  | .bl a, .bl b => a == b
  | .bl a, .int b => (if a then 1 else 0) == b
  | .int a, .bl b => a == (if b then 1 else 0)
  | .int a, .int b => a == b
  | .str a, .str b => a == b
  | _, _ => false
def toV : D → V
  | .non => .non | .bl b => .bl b | .int i => .int i | .str x => .str x | _ => .non
theorem Fz.flatV {v : V} {d : D} (h : Fz K c H v d) (f : flatD d = true) : v = toV d := by
  cases h <;> first | rfl | cases f
theorem flatV_toV {d : D} : L2.flatV (toV d) = true := by cases d <;> rfl
theorem eqV_toV {d e : D} (f : flatD d = true) (g : flatD e = true) : eqV (toV d) (toV e) = eqD1 d e := by
  cases d <;> simp [flatD] at f <;> cases e <;> simp [flatD] at g <;> rfl
theorem FzA.flats : ∀ {vs : List V} {ds : List D}, FzA K c H vs ds → ds.all flatD = true → vs = ds.map toV
  | _, _, .nil, _ => rfl
  | _, _, .cons a b, f => by
    simp at f
    rw [List.map_cons, ← a.flatV f.1, ← FzA.flats b (by simpa using f.2)]
theorem all_flatV (ds : List D) : (ds.map toV).all L2.flatV = true := by
  induction ds with
  | nil => rfl
  | cons d ds ih => simp [ih, flatV_toV]
theorem inV_toV {d : D} (f : flatD d = true) : ∀ {ds : List D}, ds.all flatD = true → inV (toV d) (ds.map toV) = ds.any fun z => eqD1 z d
  | [], _ => rfl
  | z :: ds, g => by
    simp at g
    have ih := inV_toV f (ds := ds) (by simpa using g.2)
    unfold inV at ih ⊢
    rw [List.map_cons, List.any_cons, List.any_cons, eqV_toV g.1 f, ih]
def inF (a b : D) : Option Bool := match b with
  | .str z => match a with
    | .str x => match x.cps.toList with
      | [s] => some (decide (s ∈ z.cps.toList))
      | _ => none
    | _ => none
  | .tup ds => if flatD a && ds.all flatD then some (ds.any fun z => eqD1 z a) else none
  | .lst ds => if flatD a && ds.all flatD then some (ds.any fun z => eqD1 z a) else match toPy a, toPyAll ds with
    | some p, some ps => if SeqAt.shaped p && SeqAt.shaped (.list ps) then some (ps.any fun z => PyData.eqv z p) else none
    | _, _ => none
  | .dic ks ds => match a with
    | .str x => some (decide (x ∈ ks))
    | .int _ => some false
    | _ => none
  | _ => none
def rInAll (K : PySem.W.Frag) (neg : Bool) : R2 := fun x y H Q => (∃ (c : Nat) (z : Str), x = .str ⟨#[c]⟩ ∧ y = .str z ∧ Q (.bl (neg ^^ decide (c ∈ z.cps.toList))) H) ∨ rIn K neg x y H Q ∨
  (∃ d ds, Dp K H x d ∧ Dp K H y (.list ds) ∧ SeqAt.shaped d = true ∧ SeqAt.shaped (.list ds) = true ∧ Q (.bl (neg ^^ ds.any fun z => PyData.eqv z d)) H) ∨ ∃ a o, y = .ref a ∧ DGet H a x o ∧ Q (.bl (neg ^^ o.isSome)) H
theorem op_inAll (hu : X.A.units + 65 < cLine) : OpR X (compareOp .In) (rInAll X.K false) := by
  intro pins s σ H x y v u Q I rx ry h
  rcases h with ⟨c, z, h1, h2, h3⟩ | h | ⟨d, ds, h1, h2, h3, h4, h5⟩ | ⟨a, o, rfl, g, q⟩
  · exact op_in_sign pins s σ H x y v u Q I rx ry ⟨c, z, h1, h2, by simpa using h3⟩
  · exact op_in_seq pins s σ H x y v u Q I rx ry h
  · exact op_inD hu pins s σ H x y v u Q I rx ry ⟨d, ds, h1, h2, h3, h4, by simpa using h5⟩
  · obtain rfl : u = Value.ref a := ry
    exact d_in (by omega) I g rx fun s3 I3 => ⟨.bl o.isSome, H, I3, rfl, by simpa using q⟩
theorem op_notInAll (hu : X.A.units + 65 < cLine) : OpR X (compareOp .NotIn) (rInAll X.K true) := by
  intro pins s σ H x y v u Q I rx ry h
  rcases h with ⟨c, z, h1, h2, h3⟩ | h | ⟨d, ds, h1, h2, h3, h4, h5⟩ | ⟨a, o, rfl, g, q⟩
  · exact op_notIn_sign pins s σ H x y v u Q I rx ry ⟨c, z, h1, h2, by simpa using h3⟩
  · exact op_notIn_seq pins s σ H x y v u Q I rx ry h
  · exact op_notInD hu pins s σ H x y v u Q I rx ry ⟨d, ds, h1, h2, h3, h4, by simpa using h5⟩
  · obtain rfl : u = Value.ref a := ry
    exact d_notIn (by omega) I g rx fun s3 I3 => ⟨.bl (!o.isSome), H, I3, rfl, by simpa using q⟩
def inOF (neg : Bool) (a b : D) : Option Rv := (inF a b).map fun k => .fz (.bl (neg ^^ k))
theorem valV_some {kvs : List (Key × V)} {ks : List Str} (h : kvs.map (·.1) = ks.map Sum.inr) (x : Str) : (valV kvs (Sum.inr x)).isSome = decide (x ∈ ks) := by
  induction kvs generalizing ks with
  | nil => cases ks with
    | nil => simp [valV]
    | cons k ks => simp at h
  | cons p kvs ih => cases ks with
    | nil => simp at h
    | cons k ks =>
      simp at h
      obtain ⟨h1, h2⟩ := h
      have i := ih (ks := ks) (by simpa using h2)
      obtain ⟨pk, pv⟩ := p
      simp only at h1
      subst h1
      unfold valV at i ⊢
      rw [List.find?_cons]
      by_cases q : k = x
      · subst q; simp
      · rw [decide_eq_false (by simpa using q)]
        simp only [Bool.false_eq_true, if_false]
        rw [i]
        simp [fun z => q (Eq.symm z), Ne.symm q]
theorem valV_none {kvs : List (Key × V)} {ks : List Str} (h : kvs.map (·.1) = ks.map Sum.inr) (i : Int) : (valV kvs (Sum.inl i)).isSome = false := by
  induction kvs generalizing ks with
  | nil => rfl
  | cons p kvs ih => cases ks with
    | nil => simp at h
    | cons k ks =>
      simp at h
      obtain ⟨h1, h2⟩ := h
      have i := ih (ks := ks) (by simpa using h2)
      obtain ⟨pk, pv⟩ := p
      simp only at h1
      subst h1
      unfold valV at i ⊢
      rw [List.find?_cons, decide_eq_false (by simp)]
      exact i
theorem opf_in {neg : Bool} : OpF X (inOF neg) (rInAll X.K neg) := by
  intro c H x y a b rv Q u va vb hw hq
  unfold inOF at hw
  cases w : inF a b with
  | none => rw [w] at hw; cases hw
  | some k =>
    rw [w] at hw
    cases hw
    have fin : ∀ k', k' = k → Q (.bl (neg ^^ k')) H := fun k' e => by subst e; exact hq c H _ (Gr.refl u) (.bl _)
    unfold inF at w
    split at w
    · split at w
      · split at w
        · rename_i z _ x' _ s hs
          cases w
          refine .inl ⟨s, z, ?_, vb.str, fin _ rfl⟩
          rw [va.str]
          congr 1
          obtain ⟨cps⟩ := x'
          congr 1
          exact Array.ext' (by simpa using hs)
        · cases w
      · cases w
    · split at w
      · rename_i ds hf
        cases w
        simp at hf
        obtain ⟨p, xs, rfl, h1, h2⟩ := vb.tup
        have ex := h2.flats (by simpa using hf.2)
        subst ex
        have ea : x = toV a := by
          cases va with
          | fz h => exact h.flatV hf.1
          | at_ p o hv hd h => subst hd; cases o <;> cases hf.1
        subst ea
        refine .inr (.inl ⟨p, _, rfl, .inr h1, flatV_toV, all_flatV _, ?_⟩)
        have := fin _ rfl
        rw [← inV_toV hf.1 (by simpa using hf.2)] at this
        cases neg <;> simpa using this
      · cases w
    · split at w
      · rename_i ds hf
        cases w
        simp at hf
        obtain ⟨p, xs, rfl, h1, h2⟩ := vb.list
        have ex := h2.flats (by simpa using hf.2)
        subst ex
        have ea : x = toV a := by
          cases va with
          | fz h => exact h.flatV hf.1
          | at_ p o hv hd h => subst hd; cases o <;> cases hf.1
        subst ea
        refine .inr (.inl ⟨p, _, rfl, .inl (SqL.of h1), flatV_toV, all_flatV _, ?_⟩)
        have := fin _ rfl
        rw [← inV_toV hf.1 (by simpa using hf.2)] at this
        cases neg <;> simpa using this
      · split at w
        · rename_i ds hf p ps e1 e2
          split at w
          · rename_i hs
            cases w
            simp at hs
            exact .inr (.inr (.inl ⟨p, ps, va.dp e1, vb.dp (by simp [toPy, e2]), hs.1, hs.2, fin _ rfl⟩))
          · cases w
        · cases w
    · split at w
      · rename_i ks ds x'
        cases w
        obtain ⟨p, kvs, rfl, h1, h2, h3⟩ := vb.dic
        rw [va.str]
        exact .inr (.inr (.inr ⟨p, _, rfl, DGet.k (k := Sum.inr x') h1, fin _ (valV_some h2 x')⟩))
      · rename_i ks ds i
        cases w
        obtain ⟨p, kvs, rfl, h1, h2, h3⟩ := vb.dic
        rw [va.int]
        exact .inr (.inr (.inr ⟨p, _, rfl, DGet.k (k := Sum.inl i) h1, fin _ (valV_none h2 i)⟩))
      · cases w
    · cases w
end
end Sc

set_option Elab.async false
set_option linter.all false
set_option autoImplicit false
set_option maxRecDepth 100000
set_option maxHeartbeats 4000000
namespace Sc
open PySem PySem.Spec PyProof.Rows L2

/-! ### defs: arguments, what they hand back -/
inductive Arg where
  | fz (d : D) | io (o : O)
inductive Rt where
  | fz (d : D) | own (o : O)
inductive Out where
  | ret (r : Rt) (ios : List Arg)
  | exc (x : Xc) (ios : List Arg)
  | stuck
abbrev Fun := List Arg → Out
def Rt.rv : Rt → Rv
  | .fz d => .fz d
  | .own o => .own o
inductive ArgsR (K : PySem.W.Frag) (c : CM) (H : Hp) : Nat → List V → List Arg → Prop
  | nil {j} : ArgsR K c H j [] []
  | fz {j v vs d as} : Fz K c H v d → ArgsR K c H (j + 1) vs as → ArgsR K c H j (v :: vs) (.fz d :: as)
  | io {j a vs o as} : c a = .io j → OAt K c H a o → ArgsR K c H (j + 1) vs as → ArgsR K c H j (.ref a :: vs) (.io o :: as)
inductive IosR (K : PySem.W.Frag) (c : CM) (H : Hp) : Nat → List V → List Arg → Prop
  | nil {j} : IosR K c H j [] []
  | fz {j v vs d as} : IosR K c H (j + 1) vs as → IosR K c H j (v :: vs) (.fz d :: as)
  | io {j a vs o as} : c a = .io j → OAt K c H a o → IosR K c H (j + 1) vs as → IosR K c H j (.ref a :: vs) (.io o :: as)
def RtR (Hs : Hp) (K : PySem.W.Frag) (c : CM) (H : Hp) (v : V) : Rt → Prop
  | .fz d => Fz K c H v d
  | .own o => ∃ a, v = .ref a ∧ c a = .oth ∧ Hs a = none ∧ OAt K c H a o
def PostF (K : PySem.W.Frag) (c : CM) (H : Hp) (vs : List V) (r : Out) (Q : VK) (E : XK) : Prop := match r with
  | .ret r ios => ∀ c' H' v, Unt c' H' → Step c H c' H' → IosR K c' H' 0 vs ios → RtR H K c' H' v r → Q v H'
  | .exc x ios => ∀ c' H' cls dd, Unt c' H' → Step c H c' H' → IosR K c' H' 0 vs ios → XcR K c' H' x cls dd → E cls dd H'
  | .stuck => False
/-- the promise of a def, by what it computes -/
def spOf (K : PySem.W.Frag) (n : Nat) (F : Fun) : Sp := fun vs H Q E => vs.length = n ∧ ∃ c as, Unt c H ∧ (∀ a i, c a ≠ .own i) ∧ (∀ a j, c a = .io j → vs[j]? = some (.ref a)) ∧ ArgsR K c H 0 vs as ∧ PostF K c H vs (F as) Q E
structure Def (P : Program) (w : World) (K : PySem.W.Frag) (mg : Str → Option Value) (base : Heap) (k : Nat) (f : Addr) (n : Nat) (F : Fun) : Prop where
  ex : ∃ fd ps, FnOk P w K mg base (L2.CX P w) k f fd ps (spOf K n F) ∧ Binds K fd ps []
  kp : PySem.W.keepIn K (.ref f) = true

/-! ### lending -/
abbrev Back := Option (Nat × Bool)
/-- what isn't lent is frozen -/
def prep : List Bool → List Rv → Ev → Option (List Rv × Ev)
  | [], [], e => some ([], e)
  | false :: ms, r :: rs, e => match freeze r e with
    | some (d, e1) => match prep ms rs e1 with
      | some (rs', e2) => some (.fz d :: rs', e2)
      | none => none
    | none => none
  | true :: ms, r :: rs, e => match prep ms rs e with
    | some (rs', e2) => some (r :: rs', e2)
    | none => none
  | _, _, _ => none
def lend : List Bool → List Rv → Ev → Option (List Arg × List Back × Ev)
  | [], [], e => some ([], [], e)
  | false :: ms, .fz d :: rs, e => match lend ms rs e with
    | some (as, bs, e2) => some (.fz d :: as, none :: bs, e2)
    | none => none
  | true :: ms, .own o :: rs, e => match lend ms rs e with
    | some (as, bs, e2) => some (.io o :: as, none :: bs, e2)
    | none => none
  | true :: ms, .slot i :: rs, e => match e[i]? with
    | some (.own o) => match lend ms rs (e.set i .un) with
      | some (as, bs, e2) => some (.io o :: as, some (i, false) :: bs, e2)
      | none => none
    | some (.io o) => match lend ms rs (e.set i .un) with
      | some (as, bs, e2) => some (.io o :: as, some (i, true) :: bs, e2)
      | none => none
    | _ => none
  | _, _, _ => none
def wbAll : List Back → List Arg → Ev → Option Ev
  | [], [], e => some e
  | none :: bs, _ :: as, e => wbAll bs as e
  | some (i, k) :: bs, .io o :: as, e => wbAll bs as (e.set i (if k then .io o else .own o))
  | _, _, _ => none
def backM (out : Out) (bs : List Back) : M Rv := fun e => match out with
  | .ret r ios => match wbAll bs ios e with
    | some e2 => .ok r.rv e2
    | none => .stuck
  | .exc x ios => match wbAll bs ios e with
    | some e2 => .exc x e2
    | none => .stuck
  | .stuck => .stuck
def callF (md : List Bool) (F : Fun) (rs : List Rv) : M Rv := fun e => match prep md rs e with
  | some (rs', e1) => match lend md rs' e1 with
    | some (as, bs, e2) => backM (F as) bs e2
    | none => .stuck
  | none => .stuck
section
variable {X : Cx} {K : PySem.W.Frag} {B : Bs} {W : WX} {σ : Sg} {c c' c2 c0 c1 cp cc : CM} {H H' H2 Hs H0 : Hp} {e e' : Ev}
theorem prep_ok : ∀ {ms : List Bool} {rs rs' : List Rv} {vs : List V} {as : List Addr} {c : CM} {e e' : Ev}, Rep K B c σ H e → Step c0 H0 c H → RvsR H0 K c σ H vs rs as → prep ms rs e = some (rs', e') →
    ∃ c' as', Rep K B c' σ H e' ∧ Step c0 H0 c' H ∧ RvsR H0 K c' σ H vs rs' as' ∧ (∀ a ∈ as', a ∈ as) ∧ Frz c H c' H ∧ ∀ a, c a = .oth → a ∉ as → c' a = .oth := by
  intro ms
  induction ms with
  | nil =>
    intro rs rs' vs as c e e' R S h w
    cases rs with
    | nil => simp [prep] at w; obtain ⟨rfl, rfl⟩ := w; cases h; exact ⟨c, [], R, S, .nil, fun a h => h, Frz.refl, fun a h _ => h⟩
    | cons r rs => simp [prep] at w
  | cons m ms ih =>
    intro rs rs' vs as c e e' R S h w
    cases rs with
    | nil => cases m <;> simp [prep] at w
    | cons r rs =>
      cases m with
      | false =>
        simp only [prep] at w
        cases q : freeze r e with
        | none => rw [q] at w; cases w
        | some p =>
          obtain ⟨d, e1⟩ := p
          rw [q] at w
          dsimp only at w
          cases q2 : prep ms rs e1 with
          | none => rw [q2] at w; cases w
          | some p2 =>
            obtain ⟨rs2, e2⟩ := p2
            rw [q2] at w
            simp at w
            obtain ⟨rfl, rfl⟩ := w
            have go : ∀ {v : V} {vs' : List V} {t : List Addr}, (∀ a ∈ t, a ∈ as) → RvR H0 K c σ H v r → RvsR H0 K c σ H vs' rs t → (∀ a ∈ t, ∀ o, r = .own o → v ≠ .ref a) → (∀ a o, r = .own o → v = .ref a → a ∈ as) →
                ∃ c' as', Rep K B c' σ H e2 ∧ Step c0 H0 c' H ∧ RvsR H0 K c' σ H (v :: vs') (.fz d :: rs2) as' ∧ (∀ a ∈ as', a ∈ as) ∧ Frz c H c' H ∧ ∀ a, c a = .oth → a ∉ as → c' a = .oth := by
              intro v vs' t ht hv hr hn hm
              obtain ⟨c1, R1, S1, F1, f1, o1⟩ := freeze_ok R S hv q
              obtain ⟨c2, as2, R2, S2, V2, A2, f2, o2⟩ := ih R1 S1 (hr.recol f1 fun a ha z => o1 a z (hn a ha)) q2
              exact ⟨c2, as2, R2, S2, .fz (F1.mono f2) V2, fun a ha => ht a (A2 a ha), fun a ha => ⟨(f2 a (f1 a ha).1).1, fun _ => rfl⟩,
                fun a z n => o2 a (o1 a z fun o w y => n (hm a o w y)) fun y => n (ht a y)⟩
            cases h with
            | fz a hr => exact go (fun a h => h) a hr (fun b hb o z => by cases z) (fun a o z => by cases z)
            | own h1 h2 h3 h4 hr => exact go (fun a h => by simp [h]) ⟨_, rfl, h1, h2, h3⟩ hr (fun b hb o _ z => by cases z; exact h4 hb) (fun a o _ z => by cases z; simp)
            | slot a hr => exact go (fun a h => h) a hr (fun b hb o z => by cases z) (fun a o z => by cases z)
      | true =>
        simp only [prep] at w
        cases q2 : prep ms rs e with
        | none => rw [q2] at w; cases w
        | some p2 =>
          obtain ⟨rs2, e2⟩ := p2
          rw [q2] at w
          simp at w
          obtain ⟨rfl, rfl⟩ := w
          cases h with
          | fz a hr =>
            obtain ⟨c2, as2, R2, S2, V2, A2, f2, o2⟩ := ih R S hr q2
            exact ⟨c2, as2, R2, S2, .fz (a.mono f2) V2, A2, f2, o2⟩
          | own h1 h2 h3 h4 hr =>
            obtain ⟨c2, as2, R2, S2, V2, A2, f2, o2⟩ := ih R S hr q2
            refine ⟨c2, _, R2, S2, .own (o2 _ h1 h4) h2 (h3.mono f2 rfl) (fun z => h4 (A2 _ z)) V2, fun b hb => ?_, f2, fun b z n => o2 b z fun y => n (by simp [y])⟩
            simp at hb
            rcases hb with rfl | hb
            · simp
            · simp [A2 b hb]
          | slot a hr =>
            obtain ⟨c2, as2, R2, S2, V2, A2, f2, o2⟩ := ih R S hr q2
            exact ⟨c2, as2, R2, S2, .slot a V2, A2, f2, o2⟩
/-- how the arguments lie: cp the colours ahead of the lending, c with it -/
inductive LR (K : PySem.W.Frag) (σ : Sg) (H0 : Hp) (cp c : CM) (H : Hp) : Nat → List V → List Arg → List Back → Prop
  | nil {j} : LR K σ H0 cp c H j [] [] []
  | fz {j v vs d as bs} : Fz K c H v d → LR K σ H0 cp c H (j + 1) vs as bs → LR K σ H0 cp c H j (v :: vs) (.fz d :: as) (none :: bs)
  | tmp {j a vs o as bs} : c a = .lent j → OAt K c H a o → LR K σ H0 cp c H (j + 1) vs as bs → LR K σ H0 cp c H j (.ref a :: vs) (.io o :: as) (none :: bs)
  | slot {j a i k vs o as bs} : c a = .lent j → cp a = (if k = true then Col.io i else Col.own i) → σ[i]? = some (some (.ref a)) → OAt K c H a o → LR K σ H0 cp c H (j + 1) vs as bs → LR K σ H0 cp c H j (.ref a :: vs) (.io o :: as) (some (i, k) :: bs)
/-- lent, or as it was -/
structure Lnt (H0 : Hp) (cp c : CM) (H : Hp) (j : Nat) : Prop where
  or_ : ∀ a, c a = cp a ∨ ∃ k, k < j ∧ c a = .lent k
  no : ∀ a k, cp a ≠ .lent k
  frz : ∀ a k, c a = .lent k → H a ≠ none ∧ cp a ≠ .frz ∧ (cp a = .oth → H0 a = none)
theorem lend_ok : ∀ {ms : List Bool} {rs : List Rv} {vs : List V} {tms : List Addr} {j : Nat} {c : CM} {e e' : Ev} {as : List Arg} {bs : List Back}, Rep K B c σ H e → Lnt H0 cp c H j → RvsR H0 K c σ H vs rs tms → lend ms rs e = some (as, bs, e') →
    ∃ c' j', Rep K B c' σ H e' ∧ Lnt H0 cp c' H j' ∧ LR K σ H0 cp c' H j vs as bs ∧ Frz c H c' H ∧ (∀ a k, c a = .lent k → c' a = .lent k) ∧ (∀ a k, c' a = .lent k → c a = .lent k ∨ ∃ i, vs[i]? = some (.ref a) ∧ k = j + i) := by
  intro ms
  induction ms with
  | nil =>
    intro rs vs tms j c e e' as bs R L h w
    cases rs with
    | nil => simp [lend] at w; obtain ⟨rfl, rfl, rfl⟩ := w; cases h; exact ⟨c, j, R, L, .nil, Frz.refl, fun a k h => h, fun a k h => .inl h⟩
    | cons r rs => simp [lend] at w
  | cons m ms ih =>
    intro rs vs tms j c e e' as bs R L h w
    cases rs with
    | nil => cases m <;> simp [lend] at w
    | cons r rs =>
      have up : Lnt H0 cp c H (j + 1) := ⟨fun a => (L.or_ a).imp id fun ⟨k, h1, h2⟩ => ⟨k, by omega, h2⟩, L.no, L.frz⟩
      have lentNew : ∀ (a : Addr), H a ≠ none → c a = cp a → cp a ≠ .frz → (cp a = .oth → H0 a = none) → Lnt H0 cp (cset c a (.lent j)) H (j + 1) := fun a h1 h2 h3 h4 =>
        ⟨fun b => by
          by_cases q : b = a
          · subst q; exact .inr ⟨j, by omega, cset_same⟩
          · rw [cset_ne q]; exact up.or_ b, L.no, fun b k hb => by
          by_cases q : b = a
          · subst q; exact ⟨h1, h3, h4⟩
          · rw [cset_ne q] at hb; exact L.frz b k hb⟩
      have isCp : ∀ a, (∀ k, c a ≠ .lent k) → c a = cp a := fun a n => by
        rcases L.or_ a with h | ⟨k, _, h⟩
        · exact h
        · exact absurd h (n k)
      cases m with
      | false =>
        cases r with
        | own o => simp [lend] at w
        | slot i => simp [lend] at w
        | fz d =>
          simp only [lend] at w
          cases q2 : lend ms rs e with
          | none => rw [q2] at w; cases w
          | some p2 =>
            obtain ⟨as2, bs2, e2⟩ := p2
            rw [q2] at w
            simp at w
            obtain ⟨rfl, rfl, rfl⟩ := w
            cases h with
            | fz a hr =>
              obtain ⟨c2, j2, R2, L2, V2, f2, k2, w2⟩ := ih R up hr q2
              exact ⟨c2, j2, R2, L2, .fz (a.mono f2) V2, f2, k2, fun b k hb => (w2 b k hb).imp id fun ⟨i, h1, h2⟩ => ⟨i + 1, h1, by omega⟩⟩
      | true =>
        cases r with
        | fz d => simp [lend] at w
        | own o =>
          simp only [lend] at w
          cases q2 : lend ms rs e with
          | none => rw [q2] at w; cases w
          | some p2 =>
            obtain ⟨as2, bs2, e2⟩ := p2
            rw [q2] at w
            simp at w
            obtain ⟨rfl, rfl, rfl⟩ := w
            cases h with
            | own h1 h2 h3 h4 hr =>
              rename_i a vs' as'
              have f : Frz c H (cset c a (.lent j)) H := frz_recol (.inl (by rw [h1]; simp))
              have R1 : Rep K B (cset c a (.lent j)) σ H e := R.recol h3.some (by rw [h1]; simp) (fun i s _ => ⟨fun o _ _ => by rw [h1]; simp, fun o _ => by rw [h1]; simp⟩) (fun i => by simp)
              have e1 : c a = cp a := isCp a (by rw [h1]; simp)
              obtain ⟨c2, j2, R2, L2, V2, f2, k2, w2⟩ := ih R1 (lentNew a h3.some e1 (by rw [← e1, h1]; simp) fun _ => h2) (hr.recol f fun b hb z => by rw [cset_ne (fun y => h4 (by rw [← y]; exact hb))]; exact z) q2
              exact ⟨c2, j2, R2, L2, .tmp (k2 a j cset_same) ((h3.mono f rfl).mono f2 rfl) V2, fun b hb => ⟨(f2 b (f b hb).1).1, fun _ => rfl⟩,
                fun b k hb => k2 b k (by rw [cset_ne (fun y => by rw [y, h1] at hb; cases hb)]; exact hb), fun b k hb => by
                  rcases w2 b k hb with z | ⟨i, z1, z2⟩
                  · by_cases y : b = a
                    · subst y; rw [cset_same] at z; cases z; exact .inr ⟨0, rfl, rfl⟩
                    · rw [cset_ne y] at z; exact .inl z
                  · exact .inr ⟨i + 1, z1, by omega⟩⟩
        | slot i =>
          have fin : ∀ {s : Sl} {o : O} {k : Bool} {as2 : List Arg} {bs2 : List Back} {e2 : Ev} {v : V} {vs' : List V}, e[i]? = some s → (s = if k = true then Sl.io o else Sl.own o) → lend ms rs (e.set i .un) = some (as2, bs2, e2) → σ[i]? = some (some v) → RvsR H0 K c σ H vs' rs tms →
              ∃ c' j', Rep K B c' σ H e2 ∧ Lnt H0 cp c' H j' ∧ LR K σ H0 cp c' H j (v :: vs') (.io o :: as2) (some (i, k) :: bs2) ∧ Frz c H c' H ∧ (∀ a k, c a = .lent k → c' a = .lent k) ∧ (∀ a k, c' a = .lent k → c a = .lent k ∨ ∃ i, (v :: vs')[i]? = some (.ref a) ∧ k = j + i) := by
            intro s o k as2 bs2 e2 v vs' q es q2 hv hr
            have g := slot_at R q hv
            have ⟨a, ea, ca, oa⟩ : ∃ a, v = .ref a ∧ c a = (if k = true then Col.io i else Col.own i) ∧ OAt K c H a o := by
              cases k with
              | true => simp at es; subst es; obtain ⟨a, h1, h2, h3⟩ := g; exact ⟨a, by cases h1; rfl, by simpa using h2, h3⟩
              | false => simp at es; subst es; obtain ⟨a, h1, h2, h3⟩ := g; exact ⟨a, by cases h1; rfl, by simpa using h2, h3⟩
            subst ea
            have nf : c a ≠ .frz := by rw [ca]; cases k <;> simp
            have no : c a ≠ .oth := by rw [ca]; cases k <;> simp
            have nl : ∀ k, c a ≠ .lent k := by intro k'; rw [ca]; cases k <;> simp
            have f : Frz c H (cset c a (.lent j)) H := frz_recol (.inl nf)
            have R1 : Rep K B (cset c a (.lent j)) σ H (e.set i .un) := by
              refine (R.set_env (i := i) (s := .un) fun _ _ => trivial).recol oa.some nf (fun j' s' hj => ⟨fun o' _ hs => ?_, fun o' hs => ?_⟩) (fun i => by simp)
              · intro z
                rw [ca] at z
                cases k <;> simp at z
                subst z hs
                rw [List.getElem?_set] at hj
                simp at hj
              · intro z
                rw [ca] at z
                cases k <;> simp at z
                subst z hs
                rw [List.getElem?_set] at hj
                simp at hj
            have e1 : c a = cp a := isCp a nl
            obtain ⟨c2, j2, R2, L2, V2, f2, k2, w2⟩ := ih R1 (lentNew a oa.some e1 (by rw [← e1]; exact nf) fun z => absurd (e1.trans z) no) (hr.recol f fun b hb z => by rw [cset_ne (fun y => no (by rw [← y]; exact z))]; exact z) q2
            exact ⟨c2, j2, R2, L2, .slot (k2 a j cset_same) (e1.symm.trans ca) hv ((oa.mono f rfl).mono f2 rfl) V2, fun b hb => ⟨(f2 b (f b hb).1).1, fun _ => rfl⟩,
                fun b k' hb => k2 b k' (by rw [cset_ne (fun y => nl k' (by rw [← y]; exact hb))]; exact hb), fun b k' hb => by
                  rcases w2 b k' hb with z | ⟨i, z1, z2⟩
                  · by_cases y : b = a
                    · subst y; rw [cset_same] at z; cases z; exact .inr ⟨0, rfl, rfl⟩
                    · rw [cset_ne y] at z; exact .inl z
                  · exact .inr ⟨i + 1, z1, by omega⟩⟩
          simp only [lend] at w
          cases h with
          | slot hv hr =>
            split at w
            · rename_i o q
              split at w
              · rename_i as2 bs2 e2 q2
                simp at w
                obtain ⟨rfl, rfl, rfl⟩ := w
                exact fin q rfl q2 hv hr (k := false)
              · cases w
            · rename_i o q
              split at w
              · rename_i as2 bs2 e2 q2
                simp at w
                obtain ⟨rfl, rfl, rfl⟩ := w
                exact fin q rfl q2 hv hr (k := true)
              · cases w
            · cases w
/-- the def's own colours -/
def cdef (c : CM) (t : Nat) : CM := fun a => match c a with
  | .frz => .frz
  | .lent j => .io (j + t)
  | _ => .oth
theorem LR.args {j t : Nat} {vs : List V} {as : List Arg} {bs : List Back} (h : LR K σ H0 cp c H j vs as bs) : ArgsR K (cdef c t) H (j + t) vs as := by
  have f : Frz c H (cdef c t) H := fun a ha => ⟨by simp [cdef, ha], fun _ => rfl⟩
  induction h with
  | nil => exact .nil
  | fz a _ ih => rw [Nat.add_right_comm] at ih; exact .fz (a.mono f) ih
  | tmp h1 h2 _ ih => rw [Nat.add_right_comm] at ih; exact .io (by simp [cdef, h1]) (h2.mono f rfl) ih
  | slot h1 _ _ h2 _ ih => rw [Nat.add_right_comm] at ih; exact .io (by simp [cdef, h1]) (h2.mono f rfl) ih
/-- the caller's colours behind the call -/
def cback (cp : CM) (H : Hp) (c' : CM) : CM := fun a => match H a with
  | some _ => cp a
  | none => match c' a with
    | .frz => .frz
    | _ => .oth
theorem cback_old {a : Addr} (h : H a ≠ none) : cback cp H c' a = cp a := by
  unfold cback
  cases q : H a with
  | none => exact absurd q h
  | some o => rfl
theorem cback_new {a : Addr} (h : H a = none) : cback cp H c' a = .frz ∧ c' a = .frz ∨ cback cp H c' a = .oth ∧ c' a ≠ .frz := by
  unfold cback
  rw [h]
  dsimp only
  cases q : c' a <;> simp
structure Ret (cp c : CM) (H0 H : Hp) (c' : CM) (H' : Hp) (j : Nat) (t : Nat) : Prop where
  L : Lnt H0 cp c H j
  S : Step (cdef c t) H c' H'
  U : Unt c' H'
  up : Unt cp H
theorem Ret.frz {j t : Nat} (r : Ret cp c H0 H c' H' j t) : Frz c' H' (cback cp H c') H' := fun a ha => by
  refine ⟨?_, fun _ => rfl⟩
  by_cases q : H a = none
  · rcases cback_new (cp := cp) (c' := c') q with ⟨h, _⟩ | ⟨_, h⟩
    · exact h
    · exact absurd ha h
  · rw [cback_old q]
    obtain ⟨h1, h2, h3, h4⟩ := r.S.at_ a q
    rcases r.L.or_ a with z | ⟨k, _, z⟩
    · rw [← z]
      cases w : c a with
      | frz => rfl
      | own i => have := (h3 (by simp [cdef, w])).1; rw [this] at ha; cases ha
      | io i => have := (h3 (by simp [cdef, w])).1; rw [this] at ha; cases ha
      | oth => have := (h3 (by simp [cdef, w])).1; rw [this] at ha; cases ha
      | lent i => rw [w] at z; exact absurd z.symm (r.L.no a i)
    · have := h4 (k + t) (by simp [cdef, z]); rw [this] at ha; cases ha
theorem Ret.back {j t : Nat} (r : Ret cp c H0 H c' H' j t) (S0 : Step c0 H0 cp H) : Step c0 H0 (cback cp H c') H' := ⟨fun a ha => by
  obtain ⟨g1, g2, g3, g4⟩ := S0.at_ a ha
  rw [cback_old g1]
  obtain ⟨h1, h2, h3, h4⟩ := r.S.at_ a g1
  refine ⟨h1, fun z => ⟨(g2 z).1, ?_⟩, fun z => ⟨(g3 z).1, ?_⟩, g4⟩
  · have e : c a = .frz := by
      rcases r.L.or_ a with w | ⟨k, _, w⟩
      · rw [w]; exact (g2 z).1
      · exact absurd (g2 z).1 (r.L.frz a k w).2.1
    rw [(h2 (by simp [cdef, e])).2, (g2 z).2]
  · have e : c a = .oth := by
      rcases r.L.or_ a with w | ⟨k, _, w⟩
      · rw [w]; exact (g3 z).1
      · exact absurd ((r.L.frz a k w).2.2 (g3 z).1) ha
    rw [(h3 (by simp [cdef, e])).2, (g3 z).2]⟩
theorem Ret.rep {j t : Nat} (r : Ret cp c H0 H c' H' j t) (Rp : Rep K B cp σ H e') (R : Rep K B c σ H e) : Rep K B (cback cp H c') σ H' e where
  unt a h := by
    have q : H a = none := Classical.byContradiction fun z => (r.S.at_ a z).1 h
    rcases cback_new (cp := cp) (c' := c') q with ⟨_, h2⟩ | ⟨h2, _⟩
    · rw [r.U a h] at h2; cases h2
    · exact h2
  keep a h := (r.S.at_ a (R.keep a h)).1
  new a i h := by
    by_cases q : H a = none
    · rcases cback_new (cp := cp) (c' := c') q with ⟨h2, _⟩ | ⟨h2, _⟩ <;> (rw [h2] at h; cases h)
    · rw [cback_old q] at h; exact Rp.new a i h
  io a i h := by
    by_cases q : H a = none
    · rcases cback_new (cp := cp) (c' := c') q with ⟨h2, _⟩ | ⟨h2, _⟩ <;> (rw [h2] at h; cases h)
    · rw [cback_old q] at h; exact Rp.io a i h
  len := R.len
  slot i s h := by
    obtain ⟨w, h1, h2⟩ := R.slot i s h
    have f : Frz c H (cback cp H c') H' := fun a ha => by
      have q := R.trk a ha
      obtain ⟨g1, g2, g3, g4⟩ := r.S.at_ a q
      refine ⟨?_, fun _ => (g2 (by simp [cdef, ha])).2⟩
      rw [cback_old q]
      rcases r.L.or_ a with z | ⟨k, _, z⟩
      · rw [← z]; exact ha
      · rw [z] at ha; cases ha
    refine ⟨w, h1, h2.mono f fun a q z => ?_⟩
    obtain ⟨g1, g2, g3, g4⟩ := r.S.at_ a q
    have n : ∀ k, c a ≠ .lent k := by intro k y; rcases z with z | z <;> (rw [z] at y; cases y)
    refine ⟨?_, (g3 (by rcases z with z | z <;> simp [cdef, z])).2⟩
    rw [cback_old q]
    rcases r.L.or_ a with y | ⟨k, _, y⟩
    · exact y.symm
    · exact absurd y (n k)
theorem Ret.wb {jj t : Nat} (r : Ret cp c H0 H c' H' jj t) : ∀ {bs : List Back} {as ios : List Arg} {vs : List V} {j : Nat} {e e2 : Ev}, Rep K B (cback cp H c') σ H' e → LR K σ H0 cp c H j vs as bs → IosR K c' H' (j + t) vs ios → wbAll bs ios e = some e2 → Rep K B (cback cp H c') σ H' e2 := by
  intro bs
  induction bs with
  | nil =>
    intro as ios vs j e e2 R h hi w
    cases ios with
    | nil => simp [wbAll] at w; subst w; exact R
    | cons a ios => simp [wbAll] at w
  | cons b bs ih =>
    intro as ios vs j e e2 R h hi w
    have sh : ∀ {vs ios}, IosR K c' H' (j + t + 1) vs ios → IosR K c' H' (j + 1 + t) vs ios := fun h => by rw [Nat.add_right_comm]; exact h
    cases h with
    | fz a hr => cases hi with
      | fz hi => simp only [wbAll] at w; exact ih R hr (sh hi) w
      | io z1 z2 hi => simp only [wbAll] at w; exact ih R hr (sh hi) w
    | tmp h1 h2 hr => cases hi with
      | fz hi => simp only [wbAll] at w; exact ih R hr (sh hi) w
      | io z1 z2 hi => simp only [wbAll] at w; exact ih R hr (sh hi) w
    | slot h1 h2 h3 h4 hr => cases hi with
      | fz hi => simp [wbAll] at w
      | io z1 z2 hi =>
        rename_i a i k vs' o as' o' ios'
        simp only [wbAll] at w
        refine ih (R.set_env fun ww hw => ?_) hr (sh hi) w
        rw [h3] at hw
        cases hw
        have z3 : OAt K (cback cp H c') H' a o' := z2.mono r.frz rfl
        have z4 : cback cp H c' a = (if k = true then Col.io i else Col.own i) := by rw [cback_old h4.some]; exact h2
        cases k with
        | true => exact ⟨a, rfl, by simpa using z4, z3⟩
        | false => exact ⟨a, rfl, by simpa using z4, z3⟩
theorem LR.len {j : Nat} {vs : List V} {as : List Arg} {bs : List Back} (h : LR K σ H0 cp c H j vs as bs) : vs.length = as.length := by
  induction h with
  | nil => rfl
  | fz _ _ ih => simp [ih]
  | tmp _ _ _ ih => simp [ih]
  | slot _ _ _ _ _ ih => simp [ih]
theorem lend_lens : ∀ {ms : List Bool} {rs : List Rv} {e e' : Ev} {as : List Arg} {bs : List Back}, lend ms rs e = some (as, bs, e') → as.length = ms.length := by
  intro ms
  induction ms with
  | nil => intro rs e e' as bs h; cases rs with
    | nil => simp [lend] at h; obtain ⟨rfl, rfl, rfl⟩ := h; rfl
    | cons r rs => simp [lend] at h
  | cons m ms ih =>
    intro rs e e' as bs h
    cases rs with
    | nil => cases m <;> simp [lend] at h
    | cons r rs =>
      cases m <;> cases r <;> simp only [lend] at h <;> (try cases h) <;> (repeat' split at h) <;> simp at h
      all_goals (obtain ⟨rfl, rfl, rfl⟩ := h; rename_i q; simp [ih q])
/-- no colour of lending -/
def unl (c : CM) : CM := fun a => match c a with
  | .lent _ => .oth
  | k => k
theorem unl_of {a : Addr} {k : Col} (h : c a = k) (n : ∀ j, k ≠ .lent j) : unl c a = k := by
  unfold unl; rw [h]; cases k <;> first | rfl | exact absurd rfl (n _)
theorem unl_no (a : Addr) (k : Nat) : unl c a ≠ .lent k := by
  unfold unl; cases c a <;> simp
theorem unl_frz : Frz c H (unl c) H := fun a ha => ⟨unl_of ha (by simp), fun _ => rfl⟩
theorem Rep.unl (R : Rep K B c σ H e) : Rep K B (unl c) σ H e where
  unt a h := unl_of (R.unt a h) (by simp)
  keep := R.keep
  new a i h := R.new a i (by unfold Sc.unl at h; cases q : c a <;> rw [q] at h <;> first | exact h | cases h)
  io a i h := R.io a i (by unfold Sc.unl at h; cases q : c a <;> rw [q] at h <;> first | exact h | cases h)
  len := R.len
  slot i s h := by
    obtain ⟨w, h1, h2⟩ := R.slot i s h
    exact ⟨w, h1, h2.mono unl_frz fun a _ z => ⟨by rcases z with z | z <;> rw [z] <;> exact unl_of z (by simp), rfl⟩⟩
theorem Step.unl (S : Step c0 H0 c H) : Step c0 H0 (unl c) H := ⟨fun a ha => by
  obtain ⟨h1, h2, h3, h4⟩ := S.at_ a ha
  exact ⟨h1, fun z => ⟨unl_of (h2 z).1 (by simp), (h2 z).2⟩, fun z => ⟨unl_of (h3 z).1 (by simp), (h3 z).2⟩, fun j z => unl_of (h4 j z) (by simp)⟩⟩
theorem RvsR.unl {vs : List V} {rs : List Rv} {as : List Addr} (h : RvsR Hs K c σ H vs rs as) : RvsR Hs K (unl c) σ H vs rs as := h.recol unl_frz fun a _ z => unl_of z (by simp)
theorem RtR.rv {v : V} {r : Rt} (S : Step c0 H0 c H) (f : Frz c' H' c2 H') (o : ∀ a, H a = none → c' a = .oth → c2 a = .oth) (h : RtR H K c' H' v r) : RvR H0 K c2 σ H' v r.rv := by
  cases r with
  | fz d => exact h.mono f
  | own o' =>
    obtain ⟨a, h1, h2, h3, h4⟩ := h
    exact ⟨a, h1, o a h3 h2, Classical.byContradiction fun z => (S.at_ a z).1 h3, h4.mono f rfl⟩
/-- the call's own rule: from the arguments as they lie to the promise -/
theorem callF_ok {md : List Bool} {F : Fun} {rs : List Rv} {vs : List V} {as : List Addr} {Q : VK} (Rp : Rep K B c σ H e) (S : Step c0 H0 c H) (h : RvsR H0 K c σ H vs rs as)
    (P : PostE K B W σ c0 H0 (callF md F rs e) Q) : spOf K md.length F vs H Q (WE W σ) := by
  unfold callF at P
  cases q1 : prep md rs e with
  | none => rw [q1] at P; exact P.elim
  | some p1 =>
    obtain ⟨rs1, e1⟩ := p1
    rw [q1] at P
    dsimp only at P
    cases q2 : lend md rs1 e1 with
    | none => rw [q2] at P; exact P.elim
    | some p2 =>
      obtain ⟨args, bs, e2⟩ := p2
      rw [q2] at P
      dsimp only at P
      obtain ⟨cp, as', R1, S1, V1, A1, f1, o1⟩ := prep_ok Rp S h q1
      have R1 := R1.unl
      have S1 := S1.unl
      have V1 := V1.unl
      generalize unl cp = cq at *
      have L0 : Lnt H0 (unl cq) (unl cq) H 0 := ⟨fun a => .inl rfl, fun a k => unl_no a k, fun a k z => absurd z (unl_no a k)⟩
      have R1 := R1.unl
      have S1 := S1.unl
      have V1 := V1.unl
      generalize unl cq = cr at *
      obtain ⟨c2, j2, R2, L2, V2, f2, k2, w2⟩ := lend_ok R1 L0 V1 q2
      have hio : ∀ a j, cdef c2 0 a = .io j → vs[j]? = some (.ref a) := fun a j h => by
        unfold cdef at h
        cases q : c2 a <;> rw [q] at h <;> cases h
        rcases w2 a _ q with z | ⟨i, z1, z2⟩
        · exact absurd z (fun z => by rcases L0.or_ a with y | ⟨k, y, _⟩; exact L0.no a _ (y ▸ z); omega)
        · rw [z2, Nat.zero_add]; exact z1
      have Uc : Unt (cdef c2 0) H := fun a ha => by simp [cdef, R2.unt a ha]
      refine ⟨by rw [V2.len, lend_lens q2], cdef c2 0, args, Uc, fun a i => by unfold cdef; cases c2 a <;> simp, hio, V2.args (t := 0), ?_⟩
      unfold backM at P
      cases q3 : F args with
      | stuck => rw [q3] at P; exact P.elim
      | ret r ios =>
        rw [q3] at P
        dsimp only at P
        intro c' H' v U' S' I' r'
        have rt : Ret cr c2 H0 H c' H' j2 0 := ⟨L2, S', U', R1.unt⟩
        cases q4 : wbAll bs ios e2 with
        | none => rw [q4] at P; exact P.elim
        | some e3 =>
          rw [q4] at P
          refine P (cback cr H c') H' v (rt.wb (rt.rep R1 R2) V2 I' q4) (rt.back S1) (r'.rv S1 rt.frz fun a ha z => ?_)
          rcases cback_new (cp := cr) (c' := c') ha with ⟨_, h2⟩ | ⟨h2, _⟩
          · rw [z] at h2; cases h2
          · exact h2
      | exc x ios =>
        rw [q3] at P
        dsimp only at P
        intro c' H' cls dd U' S' I' r'
        have rt : Ret cr c2 H0 H c' H' j2 0 := ⟨L2, S', U', R1.unt⟩
        cases q4 : wbAll bs ios e2 with
        | none => rw [q4] at P; exact P.elim
        | some e3 =>
          rw [q4] at P
          exact P (cback cr H c') H' cls dd (rt.wb (rt.rep R1 R2) V2 I' q4) (rt.back S1) (r'.mono rt.frz fun a z y => by rw [U' a y] at z; cases z)
/-! ### argument lists -/
theorem tA.bind0 {A : M (List Rv)} {f : List Rv → M Rv} {Q : VK} {t : List V → Hp → Prop} (h : PostE K B W σ c H ((A.bind f) e) Q) (R : Rep K B c σ H e)
    (hf : ∀ c' H' e' vs rs as, Rep K B c' σ H' e' → Step c H c' H' → RvsR H K c' σ H' vs rs as → PostE K B W σ c H (f rs e') Q → t vs H') : tA K B W A σ H t := by
  refine ⟨c, e, R, ?_⟩
  unfold M.bind at h
  cases q : A e with
  | ok r e' => rw [q] at h; exact fun c' H' vs as R' S rv => hf c' H' e' vs r as R' S rv h
  | exc x e' => rw [q] at h; exact h
  | stuck => rw [q] at h; exact h
theorem tE.bind0 {A : M Rv} {f : Rv → M Rv} {Q : VK} {t : V → Hp → Prop} (h : PostE K B W σ c H ((A.bind f) e) Q) (R : Rep K B c σ H e)
    (hf : ∀ c' H' e' v r, Rep K B c' σ H' e' → Step c H c' H' → RvR H K c' σ H' v r → PostE K B W σ c H (f r e') Q → t v H') : tE K B W A σ H t := by
  refine ⟨c, e, R, ?_⟩
  unfold M.bind at h
  cases q : A e with
  | ok r e' => rw [q] at h; exact fun c' H' v R' S rv => hf c' H' e' v r R' S rv h
  | exc x e' => rw [q] at h; exact h
  | stuck => rw [q] at h; exact h
def nilA : M (List Rv) := M.pure []
def consA (A : M Rv) (G : M (List Rv)) : M (List Rv) := A.bind fun r => G.bind fun rs => M.pure (r :: rs)
theorem sa_nil : SA X B W [] nilA := ⟨PA.imp pa_nil fun σ H Q ⟨c, e, R, p⟩ => p c H [] [] R Step.refl .nil⟩
theorem RvsR.cons {v : V} {r : Rv} {vs : List V} {rs : List Rv} {as : List Addr} (t : ∀ a, c a = .frz → H a ≠ none) (S0 : Step c0 H0 c H) (S : Step c H c' H') (h : RvR H0 K c σ H v r) (g : RvsR H K c' σ H' vs rs as) : ∃ as', RvsR H0 K c' σ H' (v :: vs) (r :: rs) as' := by
  have h' := h.step t S
  cases r with
  | fz d => exact ⟨as, .fz h' (g.back S0)⟩
  | own o =>
    obtain ⟨a, rfl, h2, h3, h4⟩ := h'
    obtain ⟨b, e1, k2, k3, k4⟩ := h
    cases e1
    exact ⟨a :: as, .own h2 h3 h4 (fun z => k4.some (g.fresh a z)) (g.back S0)⟩
  | slot i => exact ⟨as, .slot h' (g.back S0)⟩
theorem sa_cons {ex : Expr} {es : List Expr} {A : M Rv} {G : M (List Rv)} (ha : SE X B W ex A) (hr : SA X B W es G) (hs : starEach (ex :: es) X.env = (false, eval ex X.env) :: starEach es X.env := by rfl) : SA X B W (ex :: es) (consA A G) :=
  ⟨PA.imp (pa_cons ha.pe hr.pa hs) fun σ H Q ⟨c, e, R, p⟩ => by
    unfold consA at p
    refine ⟨c, e, R, ?_⟩
    unfold M.bind at p
    cases q : A e with
    | stuck => rw [q] at p; exact p.elim
    | exc x e1 => rw [q] at p; exact p
    | ok r e1 =>
      rw [q] at p
      dsimp only at p
      intro c1 H1 v R1 S1 v1
      refine ⟨c1, e1, R1, ?_⟩
      cases q2 : G e1 with
      | stuck => rw [q2] at p; exact p.elim
      | exc x e2 => rw [q2] at p; exact fun c2 H2 cls dd R2 S2 rx => p c2 H2 cls dd R2 (S1.trans S2) rx
      | ok rs e2 =>
        rw [q2] at p
        intro c2 H2 vs as R2 S2 v2
        obtain ⟨as', v3⟩ := RvsR.cons R1.trk S1 S2 v1 v2
        exact p c2 H2 (v :: vs) as' R2 (S1.trans S2) v3⟩

/-! ### calls of own defs -/
def callM (md : List Bool) (F : Fun) (G : M (List Rv)) : M Rv := G.bind (callF md F)
theorem se_call {k : Nat} {x : Str} {p pos : Pos} {ex : Expr} {es : List Expr} {md : List Bool} {F : Fun} {G : M (List Rv)} {f : Addr} (D : Def X.prog X.w X.K X.mg X.base k f md.length F) (hm : X.mg x = some (.ref f)) (hr : Room k X.A) (tk : Takes X W) (hg : Gl X x) (ha : SA X B W (ex :: es) G)
    (hdb : (x == ("__debug__" : Str)) = false := by decide) (he : starEach (ex :: es) X.env = (false, eval ex X.env) :: starEach es X.env := by rfl) (hpl : (backTo pos (starEach es X.env)).any (·.1) = false := by rfl) :
    SE X B W (.Call (.Name x p) (ex :: es) [] pos) (callM md F G) := by
  obtain ⟨fd, ps, hF, hb⟩ := D.ex
  exact ⟨PE.imp (pe_callS hF hr hg hm D.kp hb (fun σ => passAt tk σ) ha.pa hdb he hpl) fun σ H Q ⟨c, e, R, p⟩ => tA.bind0 p R fun c' H' e' vs rs as R' S r P => callF_ok R' S r P⟩
/-- a method's receiver -/
def isObj (C : Str) (m : Str) (r : Rv) (e : Ev) : Bool := match view r e with
  | some (.obj C' ks _) => decide (C' = C) && !ks.contains m
  | _ => false
def methM (C m : Str) (md : List Bool) (F : Fun) (A : M Rv) (G : M (List Rv)) : M Rv := A.bind fun r e => if isObj C m r e then (G.bind fun rs => callF (true :: md) F (r :: rs)) e else .stuck
def tMethS (C : Addr) (m : Str) (sp : Sp) (E : Sg → XK) (ta : TE) (t : TA) : TE := fun σ H Q => ta σ H fun x H1 => ∃ a dx fs, x = .ref a ∧ H1 a = some (.ins C dx fs) ∧ fs.lookup m = none ∧ t σ H1 fun vs H2 => sp (x :: vs) H2 Q (E σ)
theorem pe_methT {CX : CXT} {k : Nat} {C f : Addr} {fd : FuncData} {ps : List Str} {sp : Sp} {E : Sg → XK} {m : Str} {apos pos : Pos} {ex o : Expr} {es : List Expr} {ta : TE} {t : TA} {pl : Sem Bool} (he : PE X o ta) (c : Cls X.K C) (hm : Meth X.K C m f) (F : FnOk X.prog X.w X.K X.mg X.base CX k f fd ps sp) (hr : Room k X.A) (hb : Binds X.K fd ps []) (hx : ∀ σ, PassesAt CX X σ (E σ)) (ha : PA X (ex :: es) t)
    (hst : starEach (ex :: es) X.env = (false, eval ex X.env) :: starEach es X.env := by rfl) (hpl : (backTo pos (starEach es X.env)).any (·.1) = false := by rfl)
    (ht : eval (.Call (.Attribute o m apos) (ex :: es) [] pos) X.env = (do
      let ov ← eval o X.env
      standAt apos.atName
      let (f, first) ← holding [ov] (getMethod ov m pl)
      callWith pos f first (backTo pos (starEach (ex :: es) X.env)) (backToKw pos (keywordEach [] X.env))) := by rfl) :
    PE X (.Call (.Attribute o m apos) (ex :: es) [] pos) (tMethS C m sp E ta t) := by
  refine ⟨fun pins s σ H Q I h => ?_⟩
  refine PySem.W.methodCall_KW (pl := pl) (thn (he.run pins s σ H _ I h) fun u s1 ⟨x, H1, I1, rx, a, dx, fs, ex, ea, l, q⟩ => ?_) ht
  subst ex
  obtain rfl : u = Value.ref a := rx
  refine getmeth_ok I1 ea c hm l ?_
  refine PySem.W.callWith_K (first := [.ref a]) (h₀ := X.base) I.ok.mod.kin hm.kp (thn (ha.run pos pins s1 σ H1 _ I1 q) fun us s2 ⟨vs, H2, I2, r, q2⟩ => ⟨I2.kIn, ?_⟩) hst hpl
  exact run_fnS (us := .ref a :: us) (vs := .ref a :: vs) F hr hb (hx σ) I2 (.cons rfl r) q2
theorem pe_methT0 {CX : CXT} {k : Nat} {C f : Addr} {fd : FuncData} {ps : List Str} {sp : Sp} {E : Sg → XK} {m : Str} {apos pos : Pos} {o : Expr} {ta : TE} {pl : Sem Bool} (he : PE X o ta) (c : Cls X.K C) (hm : Meth X.K C m f) (F : FnOk X.prog X.w X.K X.mg X.base CX k f fd ps sp) (hr : Room k X.A) (hb : Binds X.K fd ps []) (hx : ∀ σ, PassesAt CX X σ (E σ))
    (ht : eval (.Call (.Attribute o m apos) [] [] pos) X.env = (do
      let ov ← eval o X.env
      standAt apos.atName
      let (f, first) ← holding [ov] (getMethod ov m pl)
      callWith pos f first (backTo pos (starEach [] X.env)) (backToKw pos (keywordEach [] X.env))) := by rfl) :
    PE X (.Call (.Attribute o m apos) [] [] pos) (tMethS C m sp E ta tNil) := by
  refine ⟨fun pins s σ H Q I h => ?_⟩
  refine PySem.W.methodCall_KW (pl := pl) (thn (he.run pins s σ H _ I h) fun u s1 ⟨x, H1, I1, rx, a, dx, fs, ex, ea, l, q⟩ => ?_) ht
  subst ex
  obtain rfl : u = Value.ref a := rx
  refine getmeth_ok I1 ea c hm l ?_
  exact PySem.W.callWith_K0 (first := [.ref a]) I1.kIn hm.kp (run_fnS (us := [.ref a]) (vs := [.ref a]) F hr hb (hx σ) I1 (.cons rfl .nil) q)
theorem lookup_no {α : Type} {m : Str} : ∀ fs : List (Str × α), m ∉ fs.map (·.1) → fs.lookup m = none
  | [], _ => rfl
  | (k, v) :: fs, h => by
    simp only [List.map_cons, List.mem_cons, not_or] at h
    rw [List.lookup_cons]
    have n : (m == k) = false := by simpa using h.1
    rw [n]
    exact lookup_no fs h.2
theorem isObj_ok {C m : Str} {v : V} {r : Rv} (R : Rep K B c σ H e) (h : RvR H0 K c σ H v r) (w : isObj C m r e = true) : ∃ a dx fs, v = .ref a ∧ H a = some (.ins (He.ga K C) dx fs) ∧ fs.lookup m = none := by
  unfold isObj at w
  split at w
  · rename_i C' ks ds q
    simp at w
    obtain ⟨rfl, hk⟩ := w
    obtain ⟨a, dx, fs, e1, e2, e3, e4⟩ := (view_ok R h q).obj
    refine ⟨a, dx, fs, e1, e2, lookup_no fs (by rw [e3]; simpa using hk)⟩
  · cases w
theorem methF_ok {C m : Str} {md : List Bool} {F : Fun} {A : M Rv} {G : M (List Rv)} {Q : VK} (h : tE X.K B W (methM C m md F A G) σ H Q) :
    tMethS (He.ga X.K C) m (spOf X.K (md.length + 1) F) (WE W) (tE X.K B W A) (tA X.K B W G) σ H Q := by
  obtain ⟨c, e, R, p⟩ := h
  refine tE.bind0 p R fun c1 H1 e1 v1 r1 R1 S1 q1 p1 => ?_
  split at p1
  · rename_i hi
    obtain ⟨a, dx, fs, g1, g2, g3⟩ := isObj_ok R1 q1 hi
    refine ⟨a, dx, fs, g1, g2, g3, ?_⟩
    unfold M.bind at p1
    refine ⟨c1, e1, R1, ?_⟩
    cases q : G e1 with
    | stuck => rw [q] at p1; exact p1.elim
    | exc x e2 => rw [q] at p1; exact fun c2 H2 cls dd R2 S2 rx => p1 c2 H2 cls dd R2 (S1.trans S2) rx
    | ok rs e2 =>
      rw [q] at p1
      intro c2 H2 vs as R2 S2 v2
      obtain ⟨as', v3⟩ := RvsR.cons R1.trk S1 S2 q1 v2
      exact callF_ok R2 (S1.trans S2) v3 p1
  · exact p1.elim
theorem se_meth {k : Nat} {C m : Str} {apos pos : Pos} {o ex : Expr} {es : List Expr} {md : List Bool} {F : Fun} {A : M Rv} {G : M (List Rv)} (D : Def X.prog X.w X.K X.mg X.base k (He.ma X.K (He.ga X.K C) m) (md.length + 1) F) (hm : Meth X.K (He.ga X.K C) m (He.ma X.K (He.ga X.K C) m)) (cl : Cls X.K (He.ga X.K C)) (hr : Room k X.A) (tk : Takes X W) (ho : SE X B W o A) (ha : SA X B W (ex :: es) G) {pl : Sem Bool}
    (hst : starEach (ex :: es) X.env = (false, eval ex X.env) :: starEach es X.env := by rfl) (hpl : (backTo pos (starEach es X.env)).any (·.1) = false := by rfl)
    (ht : eval (.Call (.Attribute o m apos) (ex :: es) [] pos) X.env = (do
      let ov ← eval o X.env
      standAt apos.atName
      let (f, first) ← holding [ov] (getMethod ov m pl)
      callWith pos f first (backTo pos (starEach (ex :: es) X.env)) (backToKw pos (keywordEach [] X.env))) := by rfl) :
    SE X B W (.Call (.Attribute o m apos) (ex :: es) [] pos) (methM C m md F A G) := by
  obtain ⟨fd, ps, hF, hb⟩ := D.ex
  exact ⟨PE.imp (pe_methT (pl := pl) ho.pe cl hm hF hr hb (fun σ => passAt tk σ) ha.pa hst hpl ht) fun σ H Q h => methF_ok h⟩
theorem se_meth0 {k : Nat} {C m : Str} {apos pos : Pos} {o : Expr} {F : Fun} {A : M Rv} (D : Def X.prog X.w X.K X.mg X.base k (He.ma X.K (He.ga X.K C) m) 1 F) (hm : Meth X.K (He.ga X.K C) m (He.ma X.K (He.ga X.K C) m)) (cl : Cls X.K (He.ga X.K C)) (hr : Room k X.A) (tk : Takes X W) (ho : SE X B W o A) {pl : Sem Bool}
    (ht : eval (.Call (.Attribute o m apos) [] [] pos) X.env = (do
      let ov ← eval o X.env
      standAt apos.atName
      let (f, first) ← holding [ov] (getMethod ov m pl)
      callWith pos f first (backTo pos (starEach [] X.env)) (backToKw pos (keywordEach [] X.env))) := by rfl) :
    SE X B W (.Call (.Attribute o m apos) [] [] pos) (methM C m [] F A nilA) := by
  obtain ⟨fd, ps, hF, hb⟩ := D.ex
  refine ⟨PE.imp (pe_methT0 (pl := pl) ho.pe cl hm hF hr hb (fun σ => passAt tk σ) ht) fun σ H Q h => ?_⟩
  have h2 := methF_ok (md := []) h
  obtain ⟨c, e, R, p⟩ := h2
  refine ⟨c, e, R, ?_⟩
  cases q : A e with
  | stuck => rw [q] at p; exact p
  | exc x e' => rw [q] at p; exact p
  | ok r e' =>
    rw [q] at p
    intro c' H' v R' S' rv
    obtain ⟨a, dx, fs, g1, g2, g3, c3, e3, R3, g4⟩ := p c' H' v R' S' rv
    exact ⟨a, dx, fs, g1, g2, g3, g4 c3 H' [] [] R3 Step.refl .nil⟩
end
end Sc

set_option Elab.async false
set_option linter.all false
set_option autoImplicit false
set_option maxRecDepth 100000
set_option maxHeartbeats 4000000
namespace Sc
open PySem PySem.Spec PyProof.Rows L2
section
open PySem.SeqAt
open PySem.AutoSeq1 (wpAny_loadPart')
open PySem.MeetsSeq PySem.MeetsSeq2 PySem.MeetsSeq3
theorem ext_list_tuple (l : Addr) (items : Array Value) (n : Nat) (b : Addr) (items2 : Array Value) (n2 : Nat) (dd : Option Addr) (sl : Array (Option Value)) (hs0 : ¬(!items.isEmpty && Builtin.List.listTooLong (items.size + items2.size)) = true) (hs1 : items.size ≤ sizeLine) (hs2 : items.size + items2.size ≤ sizeLine + 1) :
    Meets (Builtin.«list.extend» ⟨[.ref l, .ref b], []⟩) (fun _ R s => s.heap.get? l = some { cls := .type "list", dict := none, data := .seq items n, slots := #[] } ∧ s.heap.get? b = some { cls := .type "tuple", dict := dd, data := .seq items2 n2, slots := sl } ∧ R (.ok (.ret Value.none)) { s with heap := s.heap.update l (Obj.mapSeq fun x => x ++ items2), toks := s.toks }) :=
  .of_wp fun prog w A R s h => by
    obtain ⟨hp, g, d, tk, os⟩ := s; obtain ⟨hl, hb, h⟩ := h; have f1 := AutoSeq1.idx_int; have f2 := AutoSeq1.sub_tuple_tuple; have f3 := AutoSeq1.sub_list_list; have f4 := AutoSeq1.sub_tuple_list; have f5 := AutoSeq1.sub_list_tuple;
    have hz' : (items ++ items2).size ≤ sizeLine + 1 := by rw [Array.size_append]; exact hs2
    wp_walk using (wpAny_updateSeq hl rfl (hz := hs1) (_hz' := hz')), wpAny_loadPart' hl, wpAny_loadPart' hb; exact ⟨_, rfl, h⟩
end
section
variable {X : Cx} {K : PySem.W.Frag} {B : Bs} {W : WX} {σ : Sg} {c c' c2 c0 : CM} {H H' H2 Hs H0 : Hp} {e e' : Ev}
def rExtT (K : PySem.W.Frag) : V → List V → Hp → VK → Prop := fun x vs H Q => ∃ l b xs zs, x = .ref l ∧ vs = [.ref b] ∧ H l = some (.lst xs) ∧ SqT K H b zs ∧ xs.length + zs.length ≤ sizeLine ∧ Q .non (upd H l (.lst (xs ++ zs)))
theorem mt_extT : MtM X "list.extend" (rExtT X.K) := by
  intro pins s σ H x vs v us Q I rx rv h
  obtain ⟨l, b, xs, zs, rfl, rfl, hH, hB, hz, q⟩ := h
  cases rx
  obtain ⟨u, rfl, ru⟩ := rv.one
  cases ru
  obtain ⟨z, its, n, r, hl, e⟩ := I.lstM hH
  obtain ⟨its2, r2, ⟨o2, e2, c2, n2, d2⟩, hl2⟩ := I.tuple hB
  have hl3 := r2.length
  have hsz : its.toArray.size + its2.toArray.size ≤ sizeLine := by rw [List.size_toArray, List.size_toArray]; omega
  have hlong : ¬ (!its.toArray.isEmpty && Builtin.List.listTooLong (its.toArray.size + its2.toArray.size)) = true := by
    rw [notLongL hsz, Bool.and_false]
    exact Bool.false_ne_true
  obtain ⟨oc, od, odt, osl⟩ := o2
  dsimp only at c2 d2
  subst c2 d2
  refine call_meets F.slot_list_extend ⟨_, e, rfl⟩ F.entry_list_extend (F.args_list_extend_2 _ _)
    (ext_list_tuple l its.toArray n b its2.toArray n2 od osl hlong (by rw [List.size_toArray]; omega) (by omega)) ⟨e, e2, ?_⟩
  refine ⟨.non, _, I.lset (its' := its ++ its2) hH e (by simp) (r.append r2) ?_, rfl, q⟩
  rw [List.length_append]
  omega
/-! ### subscripts -/
def dget : List Str → List D → Str → Option D
  | k :: ks, d :: ds, x => if k = x then some d else dget ks ds x
  | _, _, _ => none
theorem dget_ok : ∀ {kvs : List (Key × V)} {ks : List Str} {ds : List D} {x : Str} {d : D}, kvs.map (·.1) = ks.map Sum.inr → FzA K c H (kvs.map (·.2)) ds → dget ks ds x = some d → ∃ v, valV kvs (Sum.inr x) = some v ∧ Fz K c H v d
  | [], [], _, _, _, _, _, w => by simp [dget] at w
  | [], k :: ks, _, _, _, h, _, _ => by simp at h
  | p :: kvs, [], _, _, _, h, _, _ => by simp at h
  | (pk, pv) :: kvs, k :: ks, [], _, _, _, g, _ => by cases g
  | (pk, pv) :: kvs, k :: ks, d0 :: ds, x, d, h, g, w => by
    simp at h
    obtain ⟨rfl, h⟩ := h
    cases g with
    | cons g1 g2 =>
      unfold dget at w
      unfold valV
      rw [List.find?_cons]
      split at w
      · rename_i q
        cases w
        subst q
        rw [decide_eq_true rfl]
        exact ⟨pv, rfl, g1⟩
      · rename_i q
        rw [decide_eq_false (by simpa using q)]
        exact dget_ok (kvs := kvs) (ks := ks) (by simpa using h) g2 w
def rIxD : R2 := fun x y H Q => ∃ a v, x = .ref a ∧ DGet H a y (some v) ∧ Q v H
theorem ix_dict (hu : X.A.units + 1 < cLine) : IxR X rIxD := by
  intro value slice pins s σ H x y v u Q I rx ry h hs
  obtain ⟨a, w, rfl, g, q⟩ := h
  obtain rfl : v = Value.ref a := rx
  have hT := dict_typeIs I g
  unfold subscriptTail
  refine wpAny_bind ?_
  rw [getitemInPython_of_ne hT.not_modules]
  refine wpAny_bind (wpAny_specialOf hT PySem.F.slot_dict_getitem.lookup ?_)
  have fin : wpAny (model X.prog X.w) X.A (subscripted slice false (.ref a) u) (fun r s₃ => wpAny (model X.prog X.w) X.A (letTemporaryGo value (.ref a) r >>= fun _ => pure r) (EP X pins σ Q) X.xe s₃) X.xe s := by
    rw [hs]
    exact wpAny_operating (d_getItem hu I g ry fun w' s3 I3 rw' => wpAny_bind (wpAny_letTemporaryGo (wpAny_pure ⟨w, H, I3, rw', q⟩)))
  first
    | exact wpAny_pure (wpAny_bind fin)
    | exact wpAny_bind (wpAny_pure (wpAny_bind fin))
    | exact wpAny_bind fin
def rIxAll (K : PySem.W.Frag) : R2 := fun x y H Q => rIxL K x y H Q ∨ (fun x y H Q => rIxT K x y H Q ∨ (fun x y H Q => rIxS x y H Q ∨ rIxD x y H Q : R2) x y H Q : R2) x y H Q
theorem ix_all (hu : X.A.units + 1 < cLine) : IxR X (rIxAll X.K) := IxR.or ix_list (IxR.or ix_tup (IxR.or ix_str (ix_dict hu)))
def ixF : D → D → Option Rv
  | .lst ds, .int i => (atI ds i).map .fz
  | .tup ds, .int i => (atI ds i).map .fz
  | .str z, .int i => if z.length ≤ sizeLine then (atI z.cps.toList i).map fun s => .fz (.str ⟨#[s]⟩) else none
  | .scr ns, .int i => (atI ns i).map fun n => .fz (.int n)
  | .dic ks ds, .str x => (dget ks ds x).map .fz
  | _, _ => none
theorem FzA.atI {vs : List V} {ds : List D} {i : Int} {d : D} (h : FzA K c H vs ds) (w : L2.atI ds i = some d) : ∃ v, L2.atI vs i = some v ∧ Fz K c H v d := by
  unfold L2.atI at w ⊢
  rw [h.length]
  cases q : ixN ds.length i with
  | none => rw [q] at w; cases w
  | some j => rw [q] at w; exact h.getD w
theorem opf_ix : OpF X ixF (rIxAll X.K) := by
  intro c H x y a b rv Q u va vb hw hq
  unfold ixF at hw
  split at hw
  · rename_i ds i
    cases w : L2.atI ds i with
    | none => rw [w] at hw; cases hw
    | some d =>
      rw [w] at hw; cases hw
      obtain ⟨p, xs, rfl, h1, h2⟩ := va.list
      obtain ⟨v, g1, g2⟩ := h2.atI w
      exact .inl ⟨p, xs, i, v, rfl, vb.int, SqL.of h1, g1, hq c H v (Gr.refl u) g2⟩
  · rename_i ds i
    cases w : L2.atI ds i with
    | none => rw [w] at hw; cases hw
    | some d =>
      rw [w] at hw; cases hw
      obtain ⟨p, xs, rfl, h1, h2⟩ := va.tup
      obtain ⟨v, g1, g2⟩ := h2.atI w
      exact .inr (.inl ⟨p, xs, i, v, rfl, vb.int, h1, g1, hq c H v (Gr.refl u) g2⟩)
  · rename_i z i
    split at hw
    · rename_i hz
      cases w : L2.atI z.cps.toList i with
      | none => rw [w] at hw; cases hw
      | some d => rw [w] at hw; cases hw; exact .inr (.inr (.inl ⟨z, i, d, va.str, vb.int, hz, w, hq c H _ (Gr.refl u) (.str _)⟩))
    · cases hw
  · rename_i ns i
    cases w : L2.atI ns i with
    | none => rw [w] at hw; cases hw
    | some n =>
      rw [w] at hw; cases hw
      obtain ⟨p, rfl, h1⟩ := va.scr
      refine .inl ⟨p, _, i, .int n, rfl, vb.int, h1, ?_, hq c H _ (Gr.refl u) (.int n)⟩
      unfold L2.atI at w ⊢
      rw [List.length_map]
      cases q : ixN ns.length i with
      | none => rw [q] at w; cases w
      | some j => rw [q] at w; simp only [Option.bind_some] at w ⊢; rw [List.getElem?_map, w]; rfl
  · rename_i ks ds z
    cases w : dget ks ds z with
    | none => rw [w] at hw; cases hw
    | some d =>
      rw [w] at hw; cases hw
      obtain ⟨p, kvs, rfl, h1, h2, h3⟩ := va.dic
      obtain ⟨v, g1, g2⟩ := dget_ok h2 h3 w
      rw [vb.str]
      have := DGet.k (k := Sum.inr z) h1
      rw [g1] at this
      exact .inr (.inr (.inr ⟨p, v, rfl, this, hq c H v (Gr.refl u) g2⟩))
  · cases hw
theorem se_ix {a b : Expr} {pos : Pos} {A C : M Rv} (hu : X.A.units + 1 < cLine) (ha : SE X B W a A) (hb : SE X B W b C) (hs : PlainIx b := by exact fun _ _ => rfl) : SE X B W (.Subscript a b pos) (opM ixF A C) :=
  ⟨PE.imp (pe_ix (ix_all hu) ha.pe hb.pe hs) fun σ H Q h => tOp_of opf_ix h⟩
/-! ### slices -/
def vOpt : V → Option Int
  | .int i => some i
  | _ => none
structure SO (X : Cx) (B : Bs) (W : WX) (ex : Option Expr) (m : M Rv) : Prop where
  po : PO X ex (fun σ H Q => tE X.K B W m σ H fun v H1 => Q (vOpt v) H1)
theorem PO.imp {ex : Option Expr} {t t' : TO} (h : PO X ex t) (i : ∀ σ H Q, t' σ H Q → t σ H Q) : PO X ex t' := ⟨fun pins s σ H Q I q => h.run pins s σ H Q I (i σ H Q q)⟩
def intM (A : M Rv) : M Rv := A.bind fun r e => match view r e with
  | some (.int i) => .ok (.fz (.int i)) e
  | _ => .stuck
theorem so_none : SO X B W none (constM .non) := ⟨PO.imp po_none fun σ H Q ⟨c, e, R, p⟩ => p c H .non R Step.refl .non⟩
theorem so_some {ex : Expr} {A : M Rv} (h : SE X B W ex A) : SO X B W (some ex) (intM A) := ⟨PO.imp (po_some h.pe) fun σ H Q ⟨c, e, R, p⟩ => tE.bind p R fun c1 H1 e1 v1 r1 R1 S1 q1 p1 => by
  split at p1
  · rename_i i q
    have := (view_ok R1 q1 q).int
    exact ⟨i, this, p1 c1 H1 (.int i) R1 Step.refl (.int i)⟩
  · exact p1.elim⟩
def cutG {α : Type} (xs : List α) (lo hi : Option Int) : List α := (xs.drop (HT.sIx xs.length 0 lo)).take (HT.sIx xs.length xs.length hi - HT.sIx xs.length 0 lo)
theorem FzA.cut {vs : List V} {ds : List D} (h : FzA K c H vs ds) (lo hi : Option Int) : FzA K c H (cutV vs lo hi) (cutG ds lo hi) := by
  unfold cutV cutG
  rw [h.length]
  exact (h.drop _).take _
def slF : D → Option Int → Option Int → Option Rv
  | .str z, lo, hi => if z.length ≤ sizeLine then some (.fz (.str (cutS z lo hi))) else none
  | .lst ds, lo, hi => some (.own (.lst (cutG ds lo hi)))
  | .tup ds, lo, hi => some (.fz (.tup (cutG ds lo hi)))
  | _, _, _ => none
def dOpt : Rv → Option Int
  | .fz (.int i) => some i
  | _ => none
theorem vOpt_d {v : V} {r : Rv} (h : RvR H0 K c σ H v r) (w : ∀ i, r ≠ .slot i) (w2 : ∀ o, r ≠ .own o) : vOpt v = dOpt r := by
  cases r with
  | fz d => cases h <;> rfl
  | own o => exact absurd rfl (w2 o)
  | slot i => exact absurd rfl (w i)
def sliceM (A L U : M Rv) : M Rv := A.bind fun ra => L.bind fun rl => U.bind fun ru => fun e => match view ra e, rl, ru with
  | some d, .fz l, .fz u => match slF d (dOpt (.fz l)) (dOpt (.fz u)) with
    | some r => .ok r e
    | none => .stuck
  | _, _, _ => .stuck
theorem se_slice {a : Expr} {lo hi : Option Expr} {p2 pos : Pos} {A L U : M Rv} (ha : SE X B W a A) (hl : SO X B W lo L) (hu : SO X B W hi U) : SE X B W (.Subscript a (.Slice lo hi none p2) pos) (sliceM A L U) :=
  ⟨PE.imp (pe_slice (SlR.or sl_str (SlR.or sl_list sl_tupA)) ha.pe hl.po hu.po) fun σ H Q ⟨c, e, R, p⟩ =>
    tE.bind p R fun c1 H1 e1 v1 r1 R1 S1 q1 p1 => tE.bind p1 R1 fun c2 H2 e2 v2 r2 R2 S2 q2 p2 => tE.bind p2 R2 fun c3 H3 e3 v3 r3 R3 S3 q3 p3 => by
      have q1' := (q1.step R1.trk S2).step R2.trk S3
      have q2' := q2.step R2.trk S3
      split at p3
      · rename_i d l u w
        have e2 : vOpt v2 = dOpt (.fz l) := vOpt_d q2' (by simp) (by simp)
        have e3' : vOpt v3 = dOpt (.fz u) := vOpt_d q3 (by simp) (by simp)
        rw [e2, e3']
        generalize dOpt (.fz l) = lo at *
        generalize dOpt (.fz u) = hi at *
        have vw := view_ok R3 q1' w
        cases w2 : slF d lo hi with
        | none => rw [w2] at p3; exact p3.elim
        | some rv =>
          rw [w2] at p3
          have fin : ∀ c' H' v, Gr c3 H3 c' H' → RvN H3 X.K c' H' v rv → Q v H' := fun c' H' v g n => p3 c' H' v (R3.grow g) g.step n.rvr
          unfold slF at w2
          split at w2
          · split at w2
            · cases w2
              rename_i hz
              exact .inl ⟨_, vw.str, hz, fin c3 H3 _ (Gr.refl R3.unt) (.str _)⟩
            · cases w2
          · cases w2
            obtain ⟨p, xs, rfl, h1, h2⟩ := vw.list
            refine .inr (.inl ⟨p, xs, rfl, SqL.of h1, fun z hz => ?_⟩)
            obtain ⟨G, N⟩ := new_lst R3.unt hz (h2.cut lo hi)
            exact fin _ _ _ G N
          · cases w2
            obtain ⟨p, xs, rfl, h1, h2⟩ := vw.tup
            rename_i ds
            refine .inr (.inr ⟨p, xs, rfl, h1, fun ⟨z1, z2⟩ => ?_, fun _ z hz => ?_⟩)
            · refine fin c3 H3 _ (Gr.refl R3.unt) ?_
              have : cutG ds lo hi = ds := by
                unfold cutG
                rw [← h2.length, z1, z2, List.drop_zero, Nat.sub_zero, h2.length, List.take_length]
              show Fz X.K c3 H3 (.ref p) (.tup (cutG ds lo hi))
              rw [this]
              cases vw with
              | fz h => exact h
              | at_ a o hv hd h => cases o <;> cases hd
            · obtain ⟨G, N⟩ := new_tup R3.unt hz (h2.cut lo hi)
              exact fin _ _ _ G N
          · cases w2
      · exact p3.elim⟩
/-! ### displays -/
def tupM (G : M (List Rv)) : M Rv := G.bind fun rs e => match freezeAll rs e with
  | some (ds, e') => if ds.length ≤ sizeLine then .ok (.fz (.tup ds)) e' else .stuck
  | none => .stuck
def lstM (G : M (List Rv)) : M Rv := G.bind fun rs e => match freezeAll rs e with
  | some (ds, e') => if ds.length ≤ sizeLine then .ok (.own (.lst ds)) e' else .stuck
  | none => .stuck
theorem se_tup {es : List Expr} {x1 : Nat} {pos : Pos} {G : M (List Rv)} (h : SA X B W es G) : SE X B W (.Tuple es x1 pos) (tupM G) :=
  ⟨PE.imp (pe_tup h.pa) fun σ H Q ⟨c, e, R, p⟩ => tA.bind0 p R fun c1 H1 e1 vs rs as R1 S1 V1 p1 => by
    cases w : freezeAll rs e1 with
    | none => rw [w] at p1; exact p1.elim
    | some pr =>
      obtain ⟨ds, e2⟩ := pr
      rw [w] at p1
      dsimp only at p1
      obtain ⟨c2, R2, S2, F2, f2⟩ := freezeAll_ok R1 S1 V1 w
      split at p1
      · rename_i hz
        refine ⟨by rw [F2.length]; exact hz, fun q hq => ?_⟩
        obtain ⟨G, N⟩ := new_tup R2.unt hq F2
        exact p1 _ _ _ (R2.grow G) (S2.trans G.step) N
      · exact p1.elim⟩
theorem se_lst {es : List Expr} {pos : Pos} {G : M (List Rv)} (h : SA X B W es G) : SE X B W (.List es pos) (lstM G) :=
  ⟨PE.imp (pe_lst h.pa) fun σ H Q ⟨c, e, R, p⟩ => tA.bind0 p R fun c1 H1 e1 vs rs as R1 S1 V1 p1 => by
    cases w : freezeAll rs e1 with
    | none => rw [w] at p1; exact p1.elim
    | some pr =>
      obtain ⟨ds, e2⟩ := pr
      rw [w] at p1
      dsimp only at p1
      obtain ⟨c2, R2, S2, F2, f2⟩ := freezeAll_ok R1 S1 V1 w
      split at p1
      · rename_i hz
        refine ⟨by rw [F2.length]; exact hz, fun q hq => ?_⟩
        obtain ⟨G, a, ea, n1, n2, n3⟩ := new_lst R2.unt hq F2
        cases ea
        refine p1 _ _ _ (R2.grow G) (S2.trans G.step) ⟨_, rfl, n1, ?_, n3⟩
        exact Classical.byContradiction fun z => (S2.at_ _ z).1 hq
      · exact p1.elim⟩
/-! ### fields -/
def fldM (C f : Str) (A : M Rv) : M Rv := A.bind fun r e => match view r e with
  | some (.obj C' ks ds) => if C' = C then match dget ks ds f with
      | some d => .ok (.fz d) e
      | none => .stuck
    else .stuck
  | _ => .stuck
theorem fget_ok : ∀ {fs : List (Str × V)} {ks : List Str} {ds : List D} {x : Str} {d : D}, fs.map (·.1) = ks → FzA K c H (fs.map (·.2)) ds → dget ks ds x = some d → ∃ v, fs.lookup x = some v ∧ Fz K c H v d
  | [], _, _, _, _, rfl, _, w => by simp [dget] at w
  | (pk, pv) :: fs, _, [], _, _, rfl, g, _ => by cases g
  | (pk, pv) :: fs, _, d0 :: ds, x, d, rfl, g, w => by
    cases g with
    | cons g1 g2 =>
      simp only [List.map_cons, dget] at w
      rw [List.lookup_cons]
      split at w
      · rename_i q
        cases w
        subst q
        simp
        exact g1
      · rename_i q
        have : (x == pk) = false := by simpa using fun z : x = pk => q z.symm
        rw [this]
        exact fget_ok rfl g2 w
theorem se_fld {ex : Expr} {pos : Pos} {A : M Rv} {C f : Str} (h : SE X B W ex A) (cl : Cls X.K (He.ga X.K C)) (na : NoAttr X.K (He.ga X.K C) f) (hb : attributeBase ex f X.env (eval ex X.env) = eval ex X.env := by rfl) : SE X B W (.Attribute ex f pos) (fldM C f A) :=
  ⟨PE.imp (pe_fld h.pe hb) fun σ H Q ⟨c, e, R, p⟩ => tE.bind p R fun c1 H1 e1 v1 r1 R1 S1 q1 p1 => by
    split at p1
    · rename_i C' ks ds w
      split at p1
      · rename_i hc
        subst hc
        obtain ⟨a, dx, fs, rfl, h1, h2, h3⟩ := (view_ok R1 q1 w).obj
        cases w2 : dget ks ds f with
        | none => rw [w2] at p1; exact p1.elim
        | some d =>
          rw [w2] at p1
          obtain ⟨v, g1, g2⟩ := fget_ok h2 h3 w2
          exact ⟨a, _, dx, fs, v, rfl, h1, cl, na, g1, p1 c1 H1 v R1 Step.refl g2⟩
      · exact p1.elim
    · exact p1.elim⟩
/-! ### a new object -/
def newF (C : Str) (md : List Bool) (F : Fun) (rs : List Rv) : M Rv := fun e => match prep md rs e with
  | some (rs', e1) => match lend md rs' e1 with
    | some (as, bs, e2) => match F (.io (.obj C [] []) :: as) with
      | .ret (.fz .non) (.io o :: ios) => match wbAll bs ios e2 with
        | some e3 => .ok (.own o) e3
        | none => .stuck
      | _ => .stuck
    | none => .stuck
  | none => .stuck
def newM (C : Str) (md : List Bool) (F : Fun) (G : M (List Rv)) : M Rv := G.bind (newF C md F)
theorem se_new {k : Nat} {C x : Str} {p pos : Pos} {ex : Expr} {es : List Expr} {md : List Bool} {F : Fun} {G : M (List Rv)} {f : Addr} (D : Def X.prog X.w X.K X.mg X.base k f (md.length + 1) F) (mk : Mk X.K (He.ga X.K C) f) (hm : X.mg x = some (.ref (He.ga X.K C))) (hr : Room (k + 1) X.A) (hg : Gl X x) (ha : SA X B W (ex :: es) G)
    (hdb : (x == ("__debug__" : Str)) = false := by decide) (he : starEach (ex :: es) X.env = (false, eval ex X.env) :: starEach es X.env := by rfl) (hpl : (backTo pos (starEach es X.env)).any (·.1) = false := by rfl) :
    SE X B W (.Call (.Name x p) (ex :: es) [] pos) (newM C md F G) := by
  obtain ⟨fd, ps, hF, hb⟩ := D.ex
  refine ⟨PE.imp (pe_make mk hF hr hg hm hb .nil passL ha.pa hdb he hpl) fun σ H Q ⟨c, e, R, p⟩ => tA.bind0 p R fun c0 H0 e0 vs rs as Rp S h P => ?_⟩
  intro x dx hx hdx hne
  rw [List.append_nil]
  unfold newF at P
  cases q1 : prep md rs e0 with
  | none => rw [q1] at P; exact P.elim
  | some p1 =>
    obtain ⟨rs1, e1⟩ := p1
    rw [q1] at P
    dsimp only at P
    cases q2 : lend md rs1 e1 with
    | none => rw [q2] at P; exact P.elim
    | some p2 =>
      obtain ⟨args, bs, e2⟩ := p2
      rw [q2] at P
      dsimp only at P
      obtain ⟨cp, as', R1, S1, V1, A1, f1, o1⟩ := prep_ok Rp S h q1
      have R1 := R1.unl
      have S1 := S1.unl
      have V1 := V1.unl
      generalize unl cp = cq at *
      have L0 : Lnt H (unl cq) (unl cq) H0 0 := ⟨fun a => .inl rfl, fun a k => unl_no a k, fun a k z => absurd z (unl_no a k)⟩
      have R1 := R1.unl
      have S1 := S1.unl
      have V1 := V1.unl
      generalize unl cq = cr at *
      obtain ⟨c2, j2, R2, L2, V2, f2, k2, w2⟩ := lend_ok R1 L0 V1 q2
      have hlen : ∀ a k, c2 a = .lent k → vs[k]? = some (.ref a) := fun a k q => by
        rcases w2 a _ q with z | ⟨i, z1, z2⟩
        · exact absurd z (fun z => by rcases L0.or_ a with y | ⟨k, y, _⟩; exact L0.no a _ (y ▸ z); omega)
        · rw [z2, Nat.zero_add]; exact z1
      generalize hH1 : upd (upd H0 dx (.own x)) x (.ins (He.ga X.K C) dx []) = H1
      have ex1 : H1 x = some (.ins (He.ga X.K C) dx []) := by rw [← hH1, upd_same]
      have old : ∀ a, H0 a ≠ none → H1 a = H0 a := fun a ha => by
        have n1 : a ≠ x := fun z => ha (by rw [z]; exact hx)
        have n2 : a ≠ dx := fun z => ha (by rw [z]; exact hdx)
        rw [← hH1, upd_ne n1, upd_ne n2]
      have kp : ∀ a, H1 a = none → H0 a = none := fun a ha => Classical.byContradiction fun z => z (by rw [← old a z]; exact ha)
      have e2x : cdef c2 1 x = .oth := by simp [cdef, R2.unt x hx]
      have gw : Grow (cdef c2 1) H0 (cset (cdef c2 1) x (.io 0)) H1 := fun a ha => by
        have n1 : a ≠ x := fun z => ha (by rw [z]; exact hx)
        exact ⟨cset_ne n1, old a ha⟩
      have AR := V2.args (t := 1)
      have AR1 : ArgsR X.K (cset (cdef c2 1) x (.io 0)) H1 1 vs args := by
        have : ∀ {j vs args}, ArgsR X.K (cdef c2 1) H0 j vs args → ArgsR X.K (cset (cdef c2 1) x (.io 0)) H1 j vs args := by
          intro j vs args h
          have fr : Frz (cdef c2 1) H0 (cset (cdef c2 1) x (.io 0)) H1 := fun a ha => by
            have ht : H0 a ≠ none := R2.trk a (by unfold cdef at ha; cases z : c2 a <;> rw [z] at ha <;> first | rfl | cases ha)
            exact ⟨(gw a ht).1.trans ha, fun _ => (gw a ht).2⟩
          induction h with
          | nil => exact .nil
          | fz a _ ih => exact .fz (a.mono fr) ih
          | io h1 h2 _ ih => exact .io ((gw _ h2.some).1.trans h1) (h2.mono fr (gw _ h2.some).2) ih
        have := this AR
        rwa [Nat.zero_add] at this
      refine ⟨by simp [V2.len, lend_lens q2], cset (cdef c2 1) x (.io 0),   .io (.obj C [] []) :: args, fun a ha => ?_, fun a i => ?_, fun a j h => ?_, .io cset_same ⟨dx, [], ex1, rfl, .nil⟩ AR1, ?_⟩
      · have n1 : a ≠ x := fun z => by rw [z, ex1] at ha; cases ha
        rw [cset_ne n1]
        simp [cdef, R2.unt a (kp a ha)]
      · by_cases z : a = x
        · rw [z, cset_same]; simp
        · rw [cset_ne z]; unfold cdef; cases c2 a <;> simp
      · by_cases z : a = x
        · subst z; rw [cset_same] at h; cases h; rfl
        · rw [cset_ne z] at h
          unfold cdef at h
          cases q : c2 a <;> rw [q] at h <;> cases h
          exact hlen a _ q
      · cases q3 : F (.io (.obj C [] []) :: args) with
        | stuck => rw [q3] at P; exact P.elim
        | exc x ios => rw [q3] at P; exact P.elim
        | ret r ios =>
          rw [q3] at P
          split at P
          · rename_i o ios' hq
            injection hq with hq1 hq2
            subst hq1 hq2
            intro c' H' v U' S' I' r'
            cases I' with
            | io i1 i2 i3 =>
              have rv : v = .non := by cases r'; rfl
              refine ⟨rv, ?_⟩
              have rt : Ret cr c2 H H0 c' H' j2 1 := ⟨L2, gw.step.trans S', U', R1.unt⟩
              cases q4 : wbAll bs ios' e2 with
              | none => rw [q4] at P; exact P.elim
              | some e3 =>
                rw [q4] at P
                refine P (cback cr H0 c') H' _ (rt.wb (rt.rep R1 R2) V2 (by simpa using i3) q4) (rt.back S1) ⟨x, rfl, ?_, ?_, i2.mono rt.frz rfl⟩
                · rcases cback_new (cp := cr) (c' := c') hx with ⟨_, h2⟩ | ⟨h2, _⟩
                  · rw [i1] at h2; cases h2
                  · exact h2
                · exact Classical.byContradiction fun z => (S1.at_ x z).1 hx
          · exact P.elim
end
end Sc

set_option Elab.async false
set_option linter.all false
set_option autoImplicit false
set_option maxRecDepth 100000
set_option maxHeartbeats 4000000
namespace Sc
open PySem PySem.Spec PyProof.Rows L2
section
variable {X : Cx} {K : PySem.W.Frag} {B : Bs} {W : WX} {σ : Sg} {c c' c2 c0 : CM} {H H' H2 Hs H0 : Hp} {e e' : Ev}
/-! ### builtins by their arguments' views -/
def viewAll : List Rv → Ev → Option (List D)
  | [], _ => some []
  | r :: rs, e => match view r e with
    | some d => match viewAll rs e with
      | some ds => some (d :: ds)
      | none => none
    | none => none
inductive VwA (K : PySem.W.Frag) (c : CM) (H : Hp) : List V → List D → Prop
  | nil : VwA K c H [] []
  | cons {v d vs ds} : Vw K c H v d → VwA K c H vs ds → VwA K c H (v :: vs) (d :: ds)
theorem viewAll_ok {vs : List V} {rs : List Rv} {as : List Addr} {ds : List D} (R : Rep K B c σ H e) (h : RvsR Hs K c σ H vs rs as) : viewAll rs e = some ds → VwA K c H vs ds := by
  induction h generalizing ds with
  | nil => intro w; simp [viewAll] at w; subst w; exact .nil
  | fz a hr ih =>
    rename_i v vs d rs as
    intro w
    simp only [viewAll, view] at w
    cases q : viewAll rs e with
    | none => rw [q] at w; cases w
    | some p => rw [q] at w; cases w; exact .cons (.fz a) (ih q)
  | own h1 h2 h3 h4 hr ih =>
    rename_i a o vs rs as
    intro w
    simp only [viewAll, view] at w
    cases q : viewAll rs e with
    | none => rw [q] at w; cases w
    | some p => rw [q] at w; cases w; exact .cons (.at_ a o rfl rfl h3) (ih q)
  | slot a hr ih =>
    rename_i v vs i rs as
    intro w
    simp only [viewAll] at w
    cases q1 : view (.slot i) e with
    | none => rw [q1] at w; cases w
    | some d =>
      rw [q1] at w
      dsimp only at w
      cases q : viewAll rs e with
      | none => rw [q] at w; cases w
      | some p => rw [q] at w; cases w; exact .cons (view_ok (Hs := Hs) R (r := .slot i) a q1) (ih q)
def bltM (f : List D → Option Rv) (G : M (List Rv)) : M Rv := G.bind fun rs e => match viewAll rs e with
  | some ds => match f ds with
    | some r => .ok r e
    | none => .stuck
  | none => .stuck
def BF (X : Cx) (f : List D → Option Rv) (r : List V → Hp → VK → Prop) : Prop := ∀ (c : CM) (H : Hp) (vs : List V) (ds : List D) (rv : Rv) (Q : VK), Unt c H → VwA X.K c H vs ds → f ds = some rv →
  (∀ c' H' v, Gr c H c' H' → RvN H X.K c' H' v rv → Q v H') → r vs H Q
theorem tCB_of {r : List V → Hp → VK → Prop} {f : List D → Option Rv} {G : M (List Rv)} {Q : VK} (hf : BF X f r) (h : tE X.K B W (bltM f G) σ H Q) : tCB r (tA X.K B W G) σ H Q := by
  obtain ⟨c, e, R, p⟩ := h
  refine tA.bind p R fun c1 H1 e1 vs rs as R1 S1 V1 p1 => ?_
  cases w : viewAll rs e1 with
  | none => rw [w] at p1; exact p1.elim
  | some ds =>
    rw [w] at p1
    dsimp only at p1
    cases w2 : f ds with
    | none => rw [w2] at p1; exact p1.elim
    | some rv =>
      rw [w2] at p1
      exact hf c1 H1 vs ds rv Q R1.unt (viewAll_ok R1 V1 w) w2 fun c' H' v g n => p1 c' H' v (R1.grow g) g.step n.rvr
variable {x : Str} {p pos : Pos} {ex : Expr} {es : List Expr} {G : M (List Rv)} {id T : String} {f : List D → Option Rv} {r : List V → Hp → VK → Prop}
theorem se_blt (hc : CallR X (.builtin id) r) (hf : BF X f r) (hg : Gl X x) (hm : X.mg x = none) (hv : bootBuiltins x = some (.builtin id)) (ha : SA X B W (ex :: es) G) (hn : x ≠ "__name__" := by decide) (hdb : (x == ("__debug__" : Str)) = false := by decide)
    (he : starEach (ex :: es) X.env = (false, eval ex X.env) :: starEach es X.env := by rfl) (hpl : (backTo pos (starEach es X.env)).any (·.1) = false := by rfl) : SE X B W (.Call (.Name x p) (ex :: es) [] pos) (bltM f G) :=
  ⟨PE.imp (pe_callB hc hg hm hv ha.pa hn hdb he hpl) fun σ H Q h => tCB_of hf h⟩
theorem se_bty (hc : CallR X (.type T) r) (hf : BF X f r) (hg : Gl X x) (hm : X.mg x = none) (hv : bootBuiltins x = some (.type T)) (ha : SA X B W (ex :: es) G) (hn : x ≠ "__name__" := by decide) (hdb : (x == ("__debug__" : Str)) = false := by decide)
    (he : starEach (ex :: es) X.env = (false, eval ex X.env) :: starEach es X.env := by rfl) (hpl : (backTo pos (starEach es X.env)).any (·.1) = false := by rfl) : SE X B W (.Call (.Name x p) (ex :: es) [] pos) (bltM f G) :=
  ⟨PE.imp (pe_callTy hc hg hm hv ha.pa hn hdb he hpl) fun σ H Q h => tCB_of hf h⟩
/-! len -/
def lenF : List D → Option Rv
  | [.str z] => if z.length ≤ sizeLine then some (.fz (.int z.length)) else none
  | [.lst ds] => some (.fz (.int ds.length))
  | [.tup ds] => some (.fz (.int ds.length))
  | [.scr ns] => some (.fz (.int ns.length))
  | [.dic ks ds] => some (.fz (.int ks.length))
  | _ => none
def rLenAll (K : PySem.W.Frag) : List V → Hp → VK → Prop := fun xs H Q => (∃ x n, xs = [x] ∧ LenV K x H n ∧ Q (.int n) H) ∨ (∃ a kvs, xs = [V.ref a] ∧ H a = some (.dK kvs) ∧ Q (.int kvs.length) H)
theorem call_lenAll : CallR X (.builtin "len") (rLenAll X.K) := CallR.or call_len call_lenD
theorem bf_len : BF X lenF (rLenAll X.K) := by
  intro c H vs ds rv Q u h w hq
  unfold lenF at w
  split at w
  · split at w
    · cases w
      rename_i z hz
      cases h with
      | cons h1 h2 => cases h2; rw [h1.str]; exact .inl ⟨_, _, rfl, ⟨hz, rfl⟩, hq c H _ (Gr.refl u) (.int _)⟩
    · cases w
  · cases w
    cases h with
    | cons h1 h2 =>
      cases h2
      obtain ⟨p, xs, rfl, g1, g2⟩ := h1.list
      exact .inl ⟨_, _, rfl, .inl ⟨xs, SqL.of g1, rfl⟩, hq c H _ (Gr.refl u) (by rw [g2.length]; exact .int _)⟩
  · cases w
    cases h with
    | cons h1 h2 =>
      cases h2
      obtain ⟨p, xs, rfl, g1, g2⟩ := h1.tup
      exact .inl ⟨_, _, rfl, .inr ⟨xs, g1, rfl⟩, hq c H _ (Gr.refl u) (by rw [g2.length]; exact .int _)⟩
  · cases w
    cases h with
    | cons h1 h2 =>
      cases h2
      obtain ⟨p, rfl, g1⟩ := h1.scr
      exact .inl ⟨_, _, rfl, .inl ⟨_, g1, rfl⟩, hq c H _ (Gr.refl u) (by rw [List.length_map]; exact .int _)⟩
  · cases w
    cases h with
    | cons h1 h2 =>
      cases h2
      obtain ⟨p, kvs, rfl, g1, g2, g3⟩ := h1.dic
      have e := congrArg List.length g2
      rw [List.length_map, List.length_map] at e
      exact .inr ⟨_, _, rfl, g1, hq c H _ (Gr.refl u) (by rw [e]; exact .int _)⟩
  · cases w
/-! all, any -/
def boolsOf : List D → Option (List Bool)
  | [] => some []
  | .bl b :: ds => match boolsOf ds with
    | some bs => some (b :: bs)
    | none => none
  | _ => none
theorem boolsOf_ok : ∀ {vs : List V} {ds : List D} {bs : List Bool}, FzA K c H vs ds → boolsOf ds = some bs → vs = bs.map V.bl
  | [], [], _, _, w => by simp [boolsOf] at w; subst w; rfl
  | _, d :: ds, bs, h, w => by
    cases h with
    | cons a b =>
      cases d <;> simp only [boolsOf] at w <;> first | cases w | skip
      cases a
      cases q : boolsOf ds with
      | none => rw [q] at w; cases w
      | some b' => rw [q] at w; cases w; rw [boolsOf_ok b q]; rfl
  | _ :: _, [], _, h, _ => by cases h
def allF : List D → Option Rv
  | [.lst ds] => (boolsOf ds).map fun bs => .fz (.bl (bs.all fun b => b))
  | _ => none
theorem bf_all : BF X allF (rAll X.K) := by
  intro c H vs ds rv Q u h w hq
  unfold allF at w
  split at w
  · rename_i ds'
    cases q : boolsOf ds' with
    | none => rw [q] at w; cases w
    | some bs =>
      rw [q] at w; cases w
      cases h with
      | cons h1 h2 =>
        cases h2
        obtain ⟨p, xs, rfl, g1, g2⟩ := h1.list
        have := boolsOf_ok g2 q
        subst this
        exact ⟨p, bs, rfl, SqL.of g1, hq c H _ (Gr.refl u) (.bl _)⟩
  · cases w
/-! max, min of two; int, str, tuple, list -/
def maxF : List D → Option Rv
  | [.int i, .int j] => some (.fz (.int (if j > i then j else i)))
  | _ => none
def minF : List D → Option Rv
  | [.int i, .int j] => some (.fz (.int (if j < i then j else i)))
  | _ => none
theorem bf_max : BF X maxF (fun xs H Q => ∃ i j, xs = [.int i, .int j] ∧ Q (.int (if j > i then j else i)) H) := by
  intro c H vs ds rv Q u h w hq
  unfold maxF at w
  split at w
  · cases w
    cases h with
    | cons h1 h2 => cases h2 with
      | cons h2 h3 => cases h3; rw [h1.int, h2.int]; exact ⟨_, _, rfl, hq c H _ (Gr.refl u) (.int _)⟩
  · cases w
theorem bf_min : BF X minF (fun xs H Q => ∃ i j, xs = [.int i, .int j] ∧ Q (.int (if j < i then j else i)) H) := by
  intro c H vs ds rv Q u h w hq
  unfold minF at w
  split at w
  · cases w
    cases h with
    | cons h1 h2 => cases h2 with
      | cons h2 h3 => cases h3; rw [h1.int, h2.int]; exact ⟨_, _, rfl, hq c H _ (Gr.refl u) (.int _)⟩
  · cases w
def intF : List D → Option Rv
  | [.int i] => some (.fz (.int i))
  | [.bl k] => some (.fz (.int (if k then 1 else 0)))
  | [.str s] => if s.length ≤ 640 then (PySem.intText? s).map fun n => .fz (.int n) else none
  | _ => none
def rInt : List V → Hp → VK → Prop := fun xs H Q => ((∃ i, xs = [.int i] ∧ Q (.int i) H) ∨ ∃ k, xs = [.bl k] ∧ Q (.int (if k then 1 else 0)) H) ∨ (∃ a n, xs = [.str a] ∧ PySem.intText? a = some n ∧ a.length ≤ 640 ∧ Q (.int n) H)
theorem call_intAll : CallR X (.type "int") rInt := CallR.or call_int1 call_int_str
theorem bf_int : BF X intF rInt := by
  intro c H vs ds rv Q u h w hq
  unfold intF at w
  split at w
  · cases w
    cases h with
    | cons h1 h2 => cases h2; rw [h1.int]; exact .inl (.inl ⟨_, rfl, hq c H _ (Gr.refl u) (.int _)⟩)
  · cases w
    cases h with
    | cons h1 h2 => cases h2; rw [h1.bl]; exact .inl (.inr ⟨_, rfl, hq c H _ (Gr.refl u) (.int _)⟩)
  · split at w
    · rename_i s hs
      cases q : PySem.intText? s with
      | none => rw [q] at w; cases w
      | some n =>
        rw [q] at w; cases w
        cases h with
        | cons h1 h2 => cases h2; rw [h1.str]; exact .inr ⟨_, _, rfl, q, hs, hq c H _ (Gr.refl u) (.int _)⟩
    · cases w
  · cases w
def strF : List D → Option Rv
  | [.int i] => if i.natAbs.log2 < 1920 then some (.fz (.str (toString i))) else none
  | _ => none
theorem bf_str : BF X strF (fun xs H Q => ∃ i, xs = [.int i] ∧ i.natAbs.log2 < 1920 ∧ Q (.str (toString i)) H) := by
  intro c H vs ds rv Q u h w hq
  unfold strF at w
  split at w
  · split at w
    · cases w
      rename_i hi
      cases h with
      | cons h1 h2 => cases h2; rw [h1.int]; exact ⟨_, rfl, hi, hq c H _ (Gr.refl u) (.str _)⟩
    · cases w
  · cases w
def tupleF : List D → Option Rv
  | [.lst ds] => some (.fz (.tup ds))
  | [.tup ds] => some (.fz (.tup ds))
  | _ => none
theorem Vw.fzt {v : V} {ds : List D} (h : Vw K c H v (.tup ds)) : Fz K c H v (.tup ds) := by
  cases h with
  | fz h => exact h
  | at_ a o hv hd h => cases o <;> cases hd
theorem bf_tuple : BF X tupleF (fun xs H Q => ∃ p ys, xs = [.ref p] ∧ ((SqL X.K H p ys ∧ ∀ l, H l = none → Q (.ref l) (upd H l (.tup ys))) ∨ (SqT X.K H p ys ∧ Q (.ref p) H))) := by
  intro c H vs ds rv Q u h w hq
  unfold tupleF at w
  split at w
  · cases w
    cases h with
    | cons h1 h2 =>
      cases h2
      obtain ⟨p, xs, rfl, g1, g2⟩ := h1.list
      refine ⟨p, xs, rfl, .inl ⟨SqL.of g1, fun l hl => ?_⟩⟩
      obtain ⟨G, N⟩ := new_tup u hl g2
      exact hq _ _ _ G N
  · cases w
    cases h with
    | cons h1 h2 =>
      cases h2
      obtain ⟨p, xs, rfl, g1, g2⟩ := h1.tup
      exact ⟨p, xs, rfl, .inr ⟨g1, hq c H _ (Gr.refl u) h1.fzt⟩⟩
  · cases w
def listF : List D → Option Rv
  | [.lst ds] => some (.own (.lst ds))
  | [.tup ds] => some (.own (.lst ds))
  | _ => none
theorem bf_list : BF X listF (fun xs H Q => ∃ p ys, xs = [.ref p] ∧ (SqL X.K H p ys ∨ SqT X.K H p ys) ∧ ∀ l, H l = none → Q (.ref l) (upd H l (.lst ys))) := by
  intro c H vs ds rv Q u h w hq
  unfold listF at w
  split at w
  · cases w
    cases h with
    | cons h1 h2 =>
      cases h2
      obtain ⟨p, xs, rfl, g1, g2⟩ := h1.list
      refine ⟨p, xs, rfl, .inl (SqL.of g1), fun l hl => ?_⟩
      obtain ⟨G, N⟩ := new_lst u hl g2
      exact hq _ _ _ G N
  · cases w
    cases h with
    | cons h1 h2 =>
      cases h2
      obtain ⟨p, xs, rfl, g1, g2⟩ := h1.tup
      refine ⟨p, xs, rfl, .inr g1, fun l hl => ?_⟩
      obtain ⟨G, N⟩ := new_lst u hl g2
      exact hq _ _ _ G N
  · cases w
/-! isinstance(x, T) -/
def tyName : D → Option String
  | .non => some "NoneType" | .bl _ => some "bool" | .int _ => some "int" | .str _ => some "str"
  | .tup _ => some "tuple" | .lst _ => some "list" | .dic _ _ => some "dict"
  | _ => none
def isiM (T : String) (A : M Rv) : M Rv := A.bind fun r e => match view r e with
  | some d => match tyName d with
    | some n => match kitB n T with
      | some b => .ok (.fz (.bl b)) e
      | none => .stuck
    | none => .stuck
  | none => .stuck
theorem Vw.ty {v : V} {d : D} {n : String} (h : Vw K c H v d) (w : tyName d = some n) : TyX K H v (.type n) := by
  cases d with
  | non => cases w; rw [h.non]; exact .base .non
  | bl b => cases w; rw [h.bl]; exact .base (.bl _)
  | int b => cases w; rw [h.int]; exact .base (.int _)
  | str b => cases w; rw [h.str]; exact .base (.str _)
  | tup ds =>
    cases w
    obtain ⟨p, xs, rfl, g1, g2⟩ := h.tup
    rcases g1 with (g | ⟨o, g⟩) | ⟨o, its, m, g, gc, _⟩
    · exact .base (.tup g)
    · exact .fTuple g
    · exact .kTuple g gc
  | lst ds => cases w; obtain ⟨p, xs, rfl, g1, g2⟩ := h.list; exact .base (.lst g1)
  | dic ks ds => cases w; obtain ⟨p, xs, rfl, g1, g2, g3⟩ := h.dic; exact .base (.dK g1)
  | obj C ks ds => cases w
  | scr ns => cases w
theorem se_isi {tn : Str} {tp : Pos} {A : M Rv} (ha : SE X B W ex A) (hg : Gl X "isinstance") (hm : X.mg "isinstance" = none) (hv : bootBuiltins "isinstance" = some (.builtin "isinstance")) (hg2 : Gl X tn) (hm2 : X.mg tn = none) (hv2 : bootBuiltins tn = some (.type T)) (hn2 : tn ≠ "__name__" := by decide) (hdb2 : (tn == ("__debug__" : Str)) = false := by decide)
    (hs : starEach [ex, .Name tn tp] X.env = (false, eval ex X.env) :: starEach [.Name tn tp] X.env := by rfl) (hs2 : starEach [Expr.Name tn tp] X.env = (false, eval (.Name tn tp) X.env) :: starEach [] X.env := by rfl) (hpl : (backTo pos (starEach [Expr.Name tn tp] X.env)).any (·.1) = false := by rfl) :
    SE X B W (.Call (.Name "isinstance" p) [ex, .Name tn tp] [] pos) (isiM T A) :=
  ⟨PE.imp (pe_callB call_isi hg hm hv (pa_cons ha.pe (pa_cons (pe_bltn (v := .ty T) hg2 hm2 hv2 rfl hn2 hdb2) pa_nil hs2) hs) (by decide) (by decide) hs hpl) fun σ H Q ⟨c, e, R, p⟩ => tE.bind p R fun c1 H1 e1 v1 r1 R1 S1 q1 p1 => by
    cases w : view r1 e1 with
    | none => rw [w] at p1; exact p1.elim
    | some d =>
      rw [w] at p1
      dsimp only at p1
      cases w2 : tyName d with
      | none => rw [w2] at p1; exact p1.elim
      | some n =>
        rw [w2] at p1
        dsimp only at p1
        cases w3 : kitB n T with
        | none => rw [w3] at p1; exact p1.elim
        | some b =>
          rw [w3] at p1
          exact ⟨v1, .ty T, .type n, .type T, b, rfl, .ty T, (view_ok R1 q1 w).ty w2, kit_ty w3, p1 c1 H1 _ R1 Step.refl (.bl b)⟩⟩
/-! ### methods of texts -/
def strMM (f : Str → List D → Option Rv) (A : M Rv) (G : M (List Rv)) : M Rv := A.bind fun r e => match view r e with
  | some (.str z) => (G.bind fun rs e2 => match viewAll rs e2 with
    | some ds => match f z ds with
      | some rv => .ok rv e2
      | none => .stuck
    | none => .stuck) e
  | _ => .stuck
def SF (X : Cx) (f : Str → List D → Option Rv) (r : V → List V → Hp → VK → Prop) : Prop := ∀ (c : CM) (H : Hp) (z : Str) (vs : List V) (ds : List D) (rv : Rv) (Q : VK), Unt c H → VwA X.K c H vs ds → f z ds = some rv →
  (∀ c' H' v, Gr c H c' H' → RvN H X.K c' H' v rv → Q v H') → r (.str z) vs H Q
theorem tBM_of {r : V → List V → Hp → VK → Prop} {f : Str → List D → Option Rv} {A : M Rv} {G : M (List Rv)} {Q : VK} (hf : SF X f r) (h : tE X.K B W (strMM f A G) σ H Q) : tBM X.K "str" r (tE X.K B W A) (tA X.K B W G) σ H Q := by
  obtain ⟨c, e, R, p⟩ := h
  refine tE.bind p R fun c1 H1 e1 v1 r1 R1 S1 q1 p1 => ?_
  split at p1
  · rename_i z w
    have ez := (view_ok R1 q1 w).str
    subst ez
    refine ⟨rfl, tA.bind p1 R1 fun c2 H2 e2 vs rs as R2 S2 V2 p2 => ?_⟩
    cases w2 : viewAll rs e2 with
    | none => rw [w2] at p2; exact p2.elim
    | some ds =>
      rw [w2] at p2
      dsimp only at p2
      cases w3 : f z ds with
      | none => rw [w3] at p2; exact p2.elim
      | some rv =>
        rw [w3] at p2
        exact hf c2 H2 z vs ds rv Q R2.unt (viewAll_ok R2 V2 w2) w3 fun c' H' v g n => p2 c' H' v (R2.grow g) g.step n.rvr
  · exact p1.elim
theorem se_strm {name : Str} {apos cpos : Pos} {o : Expr} {id : String} {r : V → List V → Hp → VK → Prop} {f : Str → List D → Option Rv} {A : M Rv} {G : M (List Rv)} (slot : Slot "str" name id) (hty : typeOf (.builtin id) = pure (.type "method_descriptor")) (hm : MtR X id r) (hf : SF X f r) (ho : SE X B W o A) (ha : SA X B W (ex :: es) G)
    (hbase : attributeBase o name X.env (eval o X.env) = eval o X.env := by rfl)
    (hfew : ((backTo cpos (starEach (ex :: es) X.env)).all (fun x => !x.1) && (backToKw cpos (keywordEach [] X.env)).all (fun x => x.1.isSome)
      && decide ((ex :: es).length + ([] : List Keyword).length + (if ([] : List Keyword).isEmpty then 0 else 1) < 30)) = true := by rfl)
    (hline : (apos.endLine == cpos.line) = true := by rfl) (hs : starEach (ex :: es) X.env = (false, eval ex X.env) :: starEach es X.env := by rfl) (hplain : (backTo cpos (starEach es X.env)).any (·.1) = false := by rfl) :
    SE X B W (.Call (.Attribute o name apos) (ex :: es) [] cpos) (strMM f A G) :=
  ⟨PE.imp (pe_bm PySem.F.plainAttrs_str slot hty hm ho.pe ha.pa hbase hfew hline hs hplain) fun σ H Q h => tBM_of hf h⟩
def strsOf : List D → Option (List Str)
  | [] => some []
  | .str b :: ds => match strsOf ds with
    | some bs => some (b :: bs)
    | none => none
  | _ => none
theorem strsOf_ok : ∀ {vs : List V} {ds : List D} {bs : List Str}, FzA K c H vs ds → strsOf ds = some bs → vs = bs.map V.str
  | [], [], _, _, w => by simp [strsOf] at w; subst w; rfl
  | _, d :: ds, bs, h, w => by
    cases h with
    | cons a b =>
      cases d <;> simp only [strsOf] at w <;> first | cases w | skip
      cases a
      cases q : strsOf ds with
      | none => rw [q] at w; cases w
      | some b' => rw [q] at w; cases w; rw [strsOf_ok b q]; rfl
  | _ :: _, [], _, h, _ => by cases h
def joinL (a : Str) (ds : List D) : Option Rv := match strsOf ds with
  | some ys => if (ys.map (·.length)).sum + ys.length * a.length ≤ 16777216 then some (.fz (.str (Txt.join a ys))) else none
  | none => none
def joinF (a : Str) : List D → Option Rv
  | [.lst ds] => joinL a ds
  | [.tup ds] => joinL a ds
  | _ => none
theorem sf_join : SF X joinF (fun x xs H Q => ∃ a p, ∃ ys : List Str, x = .str a ∧ xs = [.ref p] ∧ (SqL X.K H p (ys.map V.str) ∨ SqT X.K H p (ys.map V.str)) ∧
    (ys.map (·.length)).sum + ys.length * a.length ≤ 16777216 ∧ Q (.str (Txt.join a ys)) H) := by
  intro c H z vs ds rv Q u h w hq
  unfold joinF at w
  split at w
  · rename_i ds'
    unfold joinL at w
    cases q : strsOf ds' with
    | none => rw [q] at w; cases w
    | some ys =>
      rw [q] at w
      dsimp only at w
      split at w
      · rename_i hz
        cases w
        cases h with
        | cons h1 h2 =>
          cases h2
          obtain ⟨p, xs, rfl, g1, g2⟩ := h1.list
          have := strsOf_ok g2 q
          subst this
          exact ⟨z, p, ys, rfl, rfl, .inl (SqL.of g1), hz, hq c H _ (Gr.refl u) (.str _)⟩
      · cases w
  · rename_i ds'
    unfold joinL at w
    cases q : strsOf ds' with
    | none => rw [q] at w; cases w
    | some ys =>
      rw [q] at w
      dsimp only at w
      split at w
      · rename_i hz
        cases w
        cases h with
        | cons h1 h2 =>
          cases h2
          obtain ⟨p, xs, rfl, g1, g2⟩ := h1.tup
          have := strsOf_ok g2 q
          subst this
          exact ⟨z, p, ys, rfl, rfl, .inr g1, hz, hq c H _ (Gr.refl u) (.str _)⟩
      · cases w
  · cases w
def startsF (a : Str) : List D → Option Rv
  | [.str b, .int i] => some (.fz (.bl (Txt.startswith3 a b i)))
  | _ => none
theorem sf_starts : SF X startsF (fun x xs H Q => ∃ (a b : Str) (i : Int), x = .str a ∧ xs = [.str b, .int i] ∧ Q (.bl (Txt.startswith3 a b i)) H) := by
  intro c H z vs ds rv Q u h w hq
  unfold startsF at w
  split at w
  · cases w
    cases h with
    | cons h1 h2 => cases h2 with
      | cons h2 h3 => cases h3; rw [h1.str, h2.int]; exact ⟨z, _, _, rfl, rfl, hq c H _ (Gr.refl u) (.bl _)⟩
  · cases w
/-! ### lists that change -/
def lstAt (i : Nat) (e : Ev) : Option (Bool × List D) := match e[i]? with
  | some (.own (.lst ds)) => some (false, ds)
  | some (.io (.lst ds)) => some (true, ds)
  | _ => none
def slOf (k : Bool) (o : O) : Sl := if k then .io o else .own o
theorem lstAt_ok {i : Nat} {k : Bool} {ds : List D} (h : lstAt i e = some (k, ds)) : e[i]? = some (slOf k (.lst ds)) := by
  unfold lstAt at h
  split at h <;> simp at h
  · rename_i q; obtain ⟨rfl, rfl⟩ := h; exact q
  · rename_i q; obtain ⟨rfl, rfl⟩ := h; exact q
theorem sl_at {i : Nat} {k : Bool} {o : O} (R : Rep K B c σ H e) (h : e[i]? = some (slOf k o)) : ∃ a, σ[i]? = some (some (.ref a)) ∧ c a = (if k then Col.io i else Col.own i) ∧ OAt K c H a o := by
  obtain ⟨w, g1, g2⟩ := R.slot i _ h
  cases k with
  | true => obtain ⟨a, rfl, h2, h3⟩ := g2; exact ⟨a, g1, h2, h3⟩
  | false => obtain ⟨a, rfl, h2, h3⟩ := g2; exact ⟨a, g1, h2, h3⟩
/-- what a slot owns is written -/
theorem Rep.write {i : Nat} {k : Bool} {a : Addr} {o : O} {ho : HO} (R : Rep K B c σ H e) (hs : σ[i]? = some (some (.ref a))) (hc : c a = (if k then Col.io i else Col.own i)) (ha : H a ≠ none) (hi : ∀ s, e[i]? = some s → ∃ o', s = slOf k o') (ho' : OAt K c (upd H a ho) a o) :
    Rep K B c σ (upd H a ho) (e.set i (slOf k o)) ∧ Frz c H c (upd H a ho) := by
  have nf : ∀ b, c b = .frz → b ≠ a := fun b hb z => by rw [z, hc] at hb; cases k <;> simp at hb
  have f : Frz c H c (upd H a ho) := fun b hb => ⟨hb, fun _ => upd_ne (nf b hb)⟩
  refine ⟨⟨fun b hb => ?_, fun b hb => ?_, R.new, R.io, by rw [List.length_set]; exact R.len, fun j s h => ?_⟩, f⟩
  · by_cases z : b = a
    · rw [z, upd_same] at hb; cases hb
    · rw [upd_ne z] at hb; exact R.unt b hb
  · by_cases z : b = a
    · rw [z, upd_same]; simp
    · rw [upd_ne z]; exact R.keep b hb
  · by_cases q : i = j
    · subst q
      rcases Nat.lt_or_ge i e.length with l | l
      · rw [List.getElem?_set_self l] at h
        cases h
        refine ⟨_, hs, ?_⟩
        cases k with
        | true => exact ⟨a, rfl, by simpa using hc, ho'⟩
        | false => exact ⟨a, rfl, by simpa using hc, ho'⟩
      · rw [List.set_eq_of_length_le l, List.getElem?_eq_none l] at h; cases h
    · rw [List.getElem?_set_ne q] at h
      obtain ⟨w, h1, h2⟩ := R.slot j s h
      refine ⟨w, h1, h2.mono f fun b hb hz => ⟨rfl, upd_ne fun z => ?_⟩⟩
      rw [z, hc] at hz
      cases k <;> simp at hz <;> exact q hz
theorem Step.write {i : Nat} {k : Bool} {a : Addr} {ho : HO} (S : Step c0 H0 c H) (hc : c a = (if k then Col.io i else Col.own i)) : Step c0 H0 c (upd H a ho) := ⟨fun b hb => by
  obtain ⟨h1, h2, h3, h4⟩ := S.at_ b hb
  by_cases z : b = a
  · subst z
    refine ⟨by rw [upd_same]; simp, fun g => ?_, fun g => ?_, h4⟩
    · rw [(h2 g).1] at hc; cases k <;> simp at hc
    · rw [(h3 g).1] at hc; cases k <;> simp at hc
  · rw [upd_ne z]; exact ⟨h1, h2, h3, h4⟩⟩
def mutM (f : List D → List D → Option (D × List D)) (i : Nat) (G : M (List Rv)) : M Rv := fun e => match lstAt i e with
  | some _ => (G.bind fun rs e1 => match freezeAll rs e1 with
    | some (as, e2) => match lstAt i e2 with
      | some (k, ds) => match f as ds with
        | some (d, es) => .ok (.fz d) (e2.set i (slOf k (.lst es)))
        | none => .stuck
      | none => .stuck
    | none => .stuck) e
  | none => .stuck
def MutF (X : Cx) (f : List D → List D → Option (D × List D)) (r : V → List V → Hp → VK → Prop) : Prop := ∀ (c : CM) (H : Hp) (l : Addr) (xs vs : List V) (as ds es : List D) (d : D) (Q : VK), H l = some (.lst xs) → FzA X.K c H xs ds → FzA X.K c H vs as → f as ds = some (d, es) →
  (∀ v ys, Fz X.K c H v d → FzA X.K c H ys es → Q v (upd H l (.lst ys))) → r (.ref l) vs H Q
theorem tBMl_of {r : V → List V → Hp → VK → Prop} {f : List D → List D → Option (D × List D)} {i : Nat} {G : M (List Rv)} {Q : VK} (hf : MutF X f r) (h : tE X.K B W (mutM f i G) σ H Q) : tBM X.K "list" r (tVar i) (tA X.K B W G) σ H Q := by
  obtain ⟨c, e, R, p⟩ := h
  unfold mutM at p
  cases w0 : lstAt i e with
  | none => rw [w0] at p; exact p.elim
  | some kd =>
    obtain ⟨k0, ds0⟩ := kd
    rw [w0] at p
    dsimp only at p
    obtain ⟨a, g1, g2, xs0, g3, g4⟩ := sl_at R (lstAt_ok w0)
    refine ⟨.ref a, g1, .inl ⟨rfl, xs0, SqL.of g3⟩, tA.bind0 p R fun c1 H1 e1 vs rs as R1 S1 V1 p1 => ?_⟩
    cases w : freezeAll rs e1 with
    | none => rw [w] at p1; exact p1.elim
    | some pr =>
      obtain ⟨ds, e2⟩ := pr
      rw [w] at p1
      dsimp only at p1
      obtain ⟨c2, R2, S2, F2, f2⟩ := freezeAll_ok R1 S1 V1 w
      cases w1 : lstAt i e2 with
      | none => rw [w1] at p1; exact p1.elim
      | some kd =>
        obtain ⟨k, es⟩ := kd
        rw [w1] at p1
        dsimp only at p1
        obtain ⟨b, b1, b2, xs, b3, b4⟩ := sl_at R2 (lstAt_ok w1)
        have eb : b = a := by rw [g1] at b1; cases b1; rfl
        subst eb
        cases w2 : f ds es with
        | none => rw [w2] at p1; exact p1.elim
        | some pr2 =>
          obtain ⟨d, es2⟩ := pr2
          rw [w2] at p1
          refine hf c2 H1 b xs vs ds es es2 d Q b3 b4 F2 w2 fun v ys hv hys => ?_
          have nf : ∀ z, c2 z = .frz → z ≠ b := fun z hz q => by rw [q, b2] at hz; cases k <;> simp at hz
          have f : Frz c2 H1 c2 (upd H1 b (.lst ys)) := fun z hz => ⟨hz, fun _ => upd_ne (nf z hz)⟩
          obtain ⟨R3, f3⟩ := R2.write (o := .lst es2) b1 b2 (by rw [b3]; simp) (fun s hs => by rw [lstAt_ok w1] at hs; cases hs; exact ⟨_, rfl⟩) ⟨ys, upd_same, hys.mono f⟩
          exact p1 c2 _ v R3 (S2.write b2) (hv.mono f)
theorem se_mut {name : Str} {apos cpos : Pos} {o : Expr} {id : String} {i : Nat} {r : V → List V → Hp → VK → Prop} {f : List D → List D → Option (D × List D)} {G : M (List Rv)} (slot : Slot "list" name id) (hty : typeOf (.builtin id) = pure (.type "method_descriptor")) (hm : MtR X id r) (hf : MutF X f r) (ho : PE X o (tVar i)) (ha : SA X B W (ex :: es) G)
    (hbase : attributeBase o name X.env (eval o X.env) = eval o X.env := by rfl)
    (hfew : ((backTo cpos (starEach (ex :: es) X.env)).all (fun x => !x.1) && (backToKw cpos (keywordEach [] X.env)).all (fun x => x.1.isSome)
      && decide ((ex :: es).length + ([] : List Keyword).length + (if ([] : List Keyword).isEmpty then 0 else 1) < 30)) = true := by rfl)
    (hline : (apos.endLine == cpos.line) = true := by rfl) (hs : starEach (ex :: es) X.env = (false, eval ex X.env) :: starEach es X.env := by rfl) (hplain : (backTo cpos (starEach es X.env)).any (·.1) = false := by rfl) :
    SE X B W (.Call (.Attribute o name apos) (ex :: es) [] cpos) (mutM f i G) :=
  ⟨PE.imp (pe_bm PySem.F.plainAttrs_list slot hty hm ho ha.pa hbase hfew hline hs hplain) fun σ H Q h => tBMl_of hf h⟩
def appendF : List D → List D → Option (D × List D)
  | [d], ds => if ds.length < sizeLine then some (.non, ds ++ [d]) else none
  | _, _ => none
theorem mf_append : MutF X appendF rAppend := by
  intro c H l xs vs as ds es d Q hl hx hv w hq
  unfold appendF at w
  split at w
  · split at w
    · rename_i hz
      cases w
      cases hv with
      | cons h1 h2 => cases h2; exact ⟨l, xs, _, rfl, rfl, hl, by rw [hx.length]; exact hz, hq _ _ .non (hx.append (.cons h1 .nil))⟩
    · cases w
  · cases w
def extendF : List D → List D → Option (D × List D)
  | [.lst zs], ds => if ds.length + zs.length ≤ sizeLine then some (.non, ds ++ zs) else none
  | [.tup zs], ds => if ds.length + zs.length ≤ sizeLine then some (.non, ds ++ zs) else none
  | _, _ => none
def rExtAll (K : PySem.W.Frag) : V → List V → Hp → VK → Prop := fun x vs H Q => rExtend x vs H Q ∨ rExtT K x vs H Q
theorem mt_extAll : MtR X "list.extend" (rExtAll X.K) := MtR.or mt_extend mt_extT
theorem mf_extend : MutF X extendF (rExtAll X.K) := by
  intro c H l xs vs as ds es d Q hl hx hv w hq
  unfold extendF at w
  split at w
  · split at w
    · rename_i hz
      cases w
      cases hv with
      | cons h1 h2 =>
        cases h2
        cases h1 with
        | lst a1 a2 a3 => exact .inl ⟨l, _, xs, _, rfl, rfl, hl, a2, by rw [hx.length, a3.length]; exact hz, hq _ _ .non (hx.append a3)⟩
    · cases w
  · split at w
    · rename_i hz
      cases w
      cases hv with
      | cons h1 h2 =>
        cases h2
        obtain ⟨p, zs', rfl, g1, g2⟩ := (Vw.fz h1).tup
        exact .inr ⟨l, p, xs, zs', rfl, rfl, hl, g1, by rw [hx.length, g2.length]; exact hz, hq _ _ .non (hx.append g2)⟩
    · cases w
  · cases w
def popAtF : List D → List D → Option (D × List D)
  | [.int i], ds => if 0 ≤ i ∧ i < 2 ^ 63 then match ds[i.toNat]? with
      | some d => some (d, ds.eraseIdx i.toNat)
      | none => none
    else none
  | _, _ => none
theorem mf_popAt : MutF X popAtF rPopAt := by
  intro c H l xs vs as ds es d Q hl hx hv w hq
  unfold popAtF at w
  split at w
  · rename_i i
    split at w
    · rename_i hi
      cases q : ds[i.toNat]? with
      | none => rw [q] at w; cases w
      | some d' =>
        rw [q] at w
        cases w
        obtain ⟨v, g1, g2⟩ := hx.getD q
        have hlt : i.toNat < xs.length := by rw [List.getElem?_eq_some_iff] at g1; exact g1.1
        cases hv with
        | cons h1 h2 =>
          cases h2
          cases h1
          refine ⟨l, xs, i, i.toNat, v, rfl, rfl, hl, by omega, hi.2, ?_, g1, hq _ _ g2 (hx.eraseIdx _)⟩
          exact seqIndex_of hi.1 (by omega)
    · cases w
  · cases w
end
end Sc

set_option Elab.async false
set_option linter.all false
set_option autoImplicit false
set_option maxRecDepth 100000
set_option maxHeartbeats 4000000
namespace Sc
open PySem PySem.Spec PyProof.Rows L2
section
variable {X : Cx} {K : PySem.W.Frag} {B : Bs} {W : WX} {σ : Sg} {c c' c2 c0 : CM} {H H' H2 Hs H0 : Hp} {e e' : Ev}
/-! ### targets -/
abbrev TGf := D → Ev → Option Ev
abbrev TGsf := List D → Ev → Option Ev
def tG (K : PySem.W.Frag) (B : Bs) (is : List Nat) (g : TGf) : TG := fun v σ H Q => ∃ c e d, Rep K B c σ H e ∧ Fz K c H v d ∧ match g d e with
  | some e' => ∀ σ', Rep K B c σ' H e' → σ'.length = σ.length → (∀ j, j ∉ is → σ'[j]? = σ[j]?) → Q σ' H
  | none => False
def tGs (K : PySem.W.Frag) (B : Bs) (is : List Nat) (g : TGsf) : TGs := fun vs σ H Q => ∃ c e ds, Rep K B c σ H e ∧ FzA K c H vs ds ∧ match g ds e with
  | some e' => ∀ σ', Rep K B c σ' H e' → σ'.length = σ.length → (∀ j, j ∉ is → σ'[j]? = σ[j]?) → Q σ' H
  | none => False
structure SG (X : Cx) (B : Bs) (tg : Expr) (is : List Nat) (g : TGf) : Prop where
  pg : PG X tg (tG X.K B is g)
structure SGs (X : Cx) (B : Bs) (ts : List Expr) (is : List Nat) (g : TGsf) : Prop where
  pgs : PGs X ts (tGs X.K B is g)
theorem PG.imp {tg : Expr} {t t' : TG} (h : PG X tg t) (i : ∀ v σ H Q, t' v σ H Q → t v σ H Q) : PG X tg t' := ⟨fun pins s σ H v u Q I r q => h.run pins s σ H v u Q I r (i v σ H Q q)⟩
theorem PGs.imp {ts : List Expr} {t t' : TGs} (h : PGs X ts t) (i : ∀ v σ H Q, t' v σ H Q → t v σ H Q) : PGs X ts t' := ⟨fun pins s σ H v u Q I r q => h.run pins s σ H v u Q I r (i v σ H Q q)⟩
def nameG (i : Nat) : TGf := fun d e => if i < e.length then some (e.set i (.fz d)) else none
theorem sg_name {i : Nat} {x : Str} {pos : Pos} (hN : X.N.Nodup) (hi : X.N[i]? = some x) (hx : Loc X.env.scope x) (hf : X.fn x = true ∨ X.env.scope.names.lookup x = some .local := by first | exact .inl rfl | exact .inr rfl | assumption) : SG X B (.Name x pos) [i] (nameG i) :=
  ⟨PG.imp (pg_name hN hi hx hf) fun v σ H Q ⟨c, e, d, R, f, p⟩ => by
    unfold nameG at p
    split at p
    · rename_i e' w
      split at w
      · rename_i hl
        cases w
        refine p _ (R.set_slot (s := .fz d) ⟨v, rfl, f⟩ hl) (by simp) fun j hj => ?_
        rw [List.getElem?_set_ne (fun z => hj (by simp [z]))]
      · cases w
    · exact p.elim⟩
def nilG : TGsf := fun ds e => match ds with
  | [] => some e
  | _ => none
def consG (g : TGf) (gs : TGsf) : TGsf := fun ds e => match ds with
  | d :: ds => match g d e with
    | some e1 => gs ds e1
    | none => none
  | [] => none
theorem sgs_nil : SGs X B [] [] nilG := ⟨PGs.imp pgs_nil fun vs σ H Q ⟨c, e, ds, R, f, p⟩ => by
  unfold nilG at p
  cases f with
  | nil => exact ⟨rfl, p σ R rfl fun j _ => rfl⟩
  | cons a b => exact p.elim⟩
theorem sgs_cons {tg : Expr} {ts : List Expr} {is js : List Nat} {g : TGf} {gs : TGsf} (h1 : SG X B tg is g) (h2 : SGs X B ts js gs)
    (hs : (assignEach (tg :: ts) X.env).map (·.2) = assign tg X.env :: (assignEach ts X.env).map (·.2) := by rfl) : SGs X B (tg :: ts) (is ++ js) (consG g gs) :=
  ⟨PGs.imp (pgs_cons h1.pg h2.pgs hs) fun vs σ H Q ⟨c, e, ds, R, f, p⟩ => by
    unfold consG at p
    cases f with
    | nil => exact p.elim
    | @cons v d vs' ds' a b =>
      refine ⟨v, vs', rfl, c, e, d, R, a, ?_⟩
      dsimp only at p
      cases q : g d e with
      | none => rw [q] at p; exact p.elim
      | some e1 =>
        rw [q] at p
        intro σ1 R1 l1 k1
        refine ⟨c, e1, ds', R1, b, ?_⟩
        dsimp only at p
        cases q2 : gs ds' e1 with
        | none => rw [q2] at p; exact p.elim
        | some e2 =>
          rw [q2] at p
          exact fun σ2 R2 l2 k2 => p σ2 R2 (l2.trans l1) fun j hj => (k2 j fun z => hj (by simp [z])).trans (k1 j fun z => hj (by simp [z]))⟩
def tupG (gs : TGsf) : TGf := fun d e => match d with
  | .tup ds => gs ds e
  | _ => none
theorem gs_len : True := trivial
/-- a target of a written length -/
def tupGn (n : Nat) (gs : TGsf) : TGf := fun d e => match d with
  | .tup ds => if ds.length = n then gs ds e else none
  | _ => none
theorem sg_tup {ts : List Expr} {k : Nat} {pos : Pos} {is : List Nat} {gs : TGsf} {n : Nat} (hc : X.calm = true) (h : SGs X B ts is gs)
    (hn : (assignEach ts X.env).length = n := by rfl) (hst : (assignEach ts X.env).findIdx? (·.1) = none := by rfl) : SG X B (.Tuple ts k pos) is (tupGn n gs) :=
  ⟨PG.imp (pg_tup hc h.pgs hn hst) fun v σ H Q ⟨c, e, d, R, f, p⟩ => by
    unfold tupGn at p
    split at p
    · rename_i e' w
      split at w
      · rename_i ds
        split at w
        · rename_i hl
          obtain ⟨a, xs, rfl, g1, g2⟩ := (Vw.fz f).tup
          refine ⟨a, xs, rfl, g1, by rw [g2.length]; exact hl, c, e, ds, R, g2, ?_⟩
          rw [w]
          exact p
        · cases w
      · cases w
    · exact p.elim⟩

/-! ### what is walked -/
def ItR (K : PySem.W.Frag) (c : CM) (H : Hp) (J : It) (ds : List D) : Prop := ∀ (i : Nat) (c1 : CM) (H1 : Hp), Step c H c1 H1 → Unt c1 H1 →
  (∀ d, ds[i]? = some d → J.go i H1 ∧ ∀ x H2, J.yld i H1 x H2 → ∃ c2, Gr c1 H1 c2 H2 ∧ Fz K c2 H2 x d) ∧ (ds[i]? = none → J.stop i H1)
def PostI (K : PySem.W.Frag) (B : Bs) (W : WX) (σ : Sg) (c : CM) (H : Hp) (r : Rs (List D)) (R : It → Hp → Prop) : Prop := match r with
  | .ok ds e' => ∀ c' H' J, Rep K B c' σ H' e' → Step c H c' H' → ItR K c' H' J ds → R J H'
  | .exc x e' => ∀ c' H' cls dd, Rep K B c' σ H' e' → Step c H c' H' → XcR K c' H' x cls dd → W cls dd σ H'
  | .stuck => False
def tI (K : PySem.W.Frag) (B : Bs) (W : WX) (m : M (List D)) : TI := fun σ H R => ∃ c e, Rep K B c σ H e ∧ PostI K B W σ c H (m e) R
structure SI (X : Cx) (B : Bs) (W : WX) (tg it : Expr) (m : M (List D)) : Prop where
  pi : PI X tg it (tI X.K B W m)
theorem PI.imp {tg it : Expr} {t t' : TI} (h : PI X tg it t) (i : ∀ σ H Q, t' σ H Q → t σ H Q) : PI X tg it t' := ⟨fun pins s σ H Q I q => h.run pins s σ H Q I (i σ H Q q)⟩
theorem PI.or {tg it : Expr} {t t' : TI} (h : PI X tg it t) (k : PI X tg it t') : PI X tg it (fun σ H Q => t σ H Q ∨ t' σ H Q) := ⟨fun pins s σ H Q I q => by
  rcases q with q | q
  · exact h.run pins s σ H Q I q
  · exact k.run pins s σ H Q I q⟩
theorem tA.bindI {A : M (List Rv)} {f : List Rv → M (List D)} {Q : It → Hp → Prop} {t : List V → Hp → Prop} (h : PostI K B W σ c H ((A.bind f) e) Q) (R : Rep K B c σ H e)
    (hf : ∀ c' H' e' vs rs as, Rep K B c' σ H' e' → Step c H c' H' → RvsR H K c' σ H' vs rs as → PostI K B W σ c H (f rs e') Q → t vs H') : tA K B W A σ H t := by
  refine ⟨c, e, R, ?_⟩
  unfold M.bind at h
  cases q : A e with
  | ok r e' => rw [q] at h; exact fun c' H' vs as R' S rv => hf c' H' e' vs r as R' S rv h
  | exc x e' => rw [q] at h; exact h
  | stuck => rw [q] at h; exact h
/-- the signs of a text -/
def signsD (z : Str) : List D := z.cps.toList.map fun s => .str ⟨#[s]⟩
/-- the items of a list, a tuple or a text -/
def iterM (A : M Rv) : M (List D) := A.bind fun r e => match freeze r e with
  | some (.lst ds, e') => .ok ds e'
  | some (.tup ds, e') => .ok ds e'
  | some (.str z, e') => .ok (signsD z) e'
  | _ => .stuck
theorem itR_str {z : Str} : ItR K c H (Its z) (signsD z) := by
  intro i c1 H1 S U
  refine ⟨fun d hd => ?_, fun hn => ?_⟩
  · unfold signsD at hd
    rw [List.getElem?_map] at hd
    cases q : z.cps.toList[i]? with
    | none => rw [q] at hd; cases hd
    | some s =>
      rw [q] at hd
      cases hd
      have q' : z.cps[i]? = some s := by simpa using q
      have hlt : i < z.cps.size := (Array.getElem?_eq_some_iff.mp q').1
      refine ⟨hlt, fun x H2 ⟨e1, s', e2, e3⟩ => ?_⟩
      subst e1 e3
      rw [q'] at e2
      cases e2
      exact ⟨c1, Gr.refl U, .str _⟩
  · have := List.getElem?_eq_none_iff.mp hn
    have h2 : z.cps.size ≤ i := by simpa [signsD] using this
    exact h2
theorem itR_list {a : Addr} {xs : List V} {ds : List D} (t : ∀ a, c a = .frz → H a ≠ none) (ha : c a = .frz) (hx : H a = some (.lst xs)) (f : FzA K c H xs ds) : ItR K c H (Itl K a) ds := by
  intro i c1 H1 S U
  have h1 : H1 a = some (.lst xs) := by rw [((S.at_ a (t a ha)).2.1 ha).2]; exact hx
  have f1 := f.mono (S.frz t)
  refine ⟨fun d hd => ?_, fun hn => ⟨xs, SqL.of h1, ?_⟩⟩
  · obtain ⟨v, g1, g2⟩ := f1.getD hd
    refine ⟨⟨xs, v, SqL.of h1, g1⟩, fun x H2 ⟨e1, e2⟩ => ?_⟩
    subst e1
    have := e2 xs (SqL.of h1)
    rw [g1] at this
    cases this
    exact ⟨c1, Gr.refl U, g2⟩
  · rw [f.length]; exact List.getElem?_eq_none_iff.mp hn
theorem SqT.step {a : Addr} {ds : List D} (t : ∀ a, c a = .frz → H a ≠ none) (S : Step c H c' H') (h : Fz K c H (.ref a) (.tup ds)) : ∃ xs, SqT K H' a xs ∧ FzA K c' H' xs ds := by
  have := h.mono (S.frz t)
  obtain ⟨b, xs, e, g1, g2⟩ := (Vw.fz this).tup
  cases e
  exact ⟨xs, g1, g2⟩
theorem fz_kt {a : Addr} {ds : List D} (h : Fz K c H (.ref a) (.tup ds)) : (∃ xs, H a = some (.tup xs) ∧ c a = .frz ∧ FzA K c H xs ds) ∨ ∃ xs, KT K a xs ∧ FzA K c H xs ds := by
  cases h with
  | tup h1 h2 h3 => exact .inl ⟨_, h2, h1, h3⟩
  | ktup h2 h3 => exact .inr ⟨_, h2, h3⟩
theorem itR_tup {a : Addr} {ds : List D} (t : ∀ a, c a = .frz → H a ≠ none) (f : Fz K c H (.ref a) (.tup ds)) : ItR K c H (Itt K a) ds := by
  intro i c1 H1 S U
  obtain ⟨xs, h1, f1⟩ := SqT.step t S f
  refine ⟨fun d hd => ?_, fun hn => ⟨xs, h1, ?_⟩⟩
  · obtain ⟨v, g1, g2⟩ := f1.getD hd
    refine ⟨⟨xs, v, h1, g1⟩, fun x H2 ⟨e1, e2⟩ => ?_⟩
    subst e1
    have := e2 xs h1
    rw [g1] at this
    cases this
    exact ⟨c1, Gr.refl U, g2⟩
  · rw [f1.length]; exact List.getElem?_eq_none_iff.mp hn
theorem si_iter {tg it : Expr} {A : M Rv} (h : SE X B W it A) : SI X B W tg it (iterM A) :=
  ⟨PI.imp (PI.or (pi_list h.pe) (PI.or (pi_tup h.pe) (pi_str h.pe))) fun σ H R ⟨c, e, Rp, p⟩ => by
    unfold iterM M.bind at p
    cases q : A e with
    | stuck => rw [q] at p; exact p.elim
    | exc x e1 => rw [q] at p; exact .inl ⟨c, e, Rp, by rw [q]; exact p⟩
    | ok r e1 =>
      rw [q] at p
      dsimp only at p
      split at p
      · rename_i ds e2 w
        refine .inl ⟨c, e, Rp, ?_⟩
        rw [q]
        intro c1 H1 v R1 S1 v1
        obtain ⟨c2, R2, S2, F2, f2, o2⟩ := freeze_ok R1 S1 v1 w
        cases F2 with
        | lst h1 h2 h3 => exact ⟨_, rfl, ⟨_, SqL.of h2⟩, p c2 H1 _ R2 S2 (itR_list R2.trk h1 h2 h3)⟩
      · rename_i ds e2 w
        refine .inr (.inl ⟨c, e, Rp, ?_⟩)
        rw [q]
        intro c1 H1 v R1 S1 v1
        obtain ⟨c2, R2, S2, F2, f2, o2⟩ := freeze_ok R1 S1 v1 w
        obtain ⟨a, xs, rfl, g1, g2⟩ := (Vw.fz F2).tup
        exact ⟨a, rfl, ⟨xs, g1⟩, p c2 H1 _ R2 S2 (itR_tup R2.trk F2)⟩
      · rename_i z e2 w
        refine .inr (.inr ⟨c, e, Rp, ?_⟩)
        rw [q]
        intro c1 H1 v R1 S1 v1
        obtain ⟨c2, R2, S2, F2, f2, o2⟩ := freeze_ok R1 S1 v1 w
        cases F2
        exact ⟨z, rfl, p c2 H1 _ R2 S2 itR_str⟩
      · exact p.elim⟩
/-! range(n), range(a, b) -/
def rangeD (lo : Int) (n : Nat) : List D := (List.range n).map fun (k : Nat) => .int (lo + (k : Int))
theorem itR_range (lo : Int) (n : Nat) : ItR K c H (Itr lo n) (rangeD lo n) := by
  intro i c1 H1 S U
  refine ⟨fun d hd => ?_, fun hn => ?_⟩
  · have hl : i < n := by
      have := (List.getElem?_eq_some_iff.mp hd).1
      simpa [rangeD] using this
    refine ⟨hl, fun x H2 ⟨e1, e2⟩ => ?_⟩
    subst e1 e2
    have : d = .int (lo + i) := by
      unfold rangeD at hd
      rw [List.getElem?_map, List.getElem?_range hl] at hd
      cases hd; rfl
    subst this
    exact ⟨c1, Gr.refl U, .int _⟩
  · have := List.getElem?_eq_none_iff.mp hn
    have h2 : n ≤ i := by simpa [rangeD] using this
    exact h2
def inR (i : Int) : Bool := decide (-(2 ^ 62) ≤ i) && decide (i < 2 ^ 62)
theorem inR_ok {i : Int} (h : inR i = true) : -(2 ^ 62) ≤ i ∧ i < 2 ^ 62 := by unfold inR at h; simpa using h
def rng1M (G : M (List Rv)) : M (List D) := G.bind fun rs e => match viewAll rs e with
  | some [.int j] => if inR j then .ok (rangeD 0 j.toNat) e else .stuck
  | _ => .stuck
def rng2M (G : M (List Rv)) : M (List D) := G.bind fun rs e => match viewAll rs e with
  | some [.int i, .int j] => if inR i && inR j then .ok (rangeD i (j - i).toNat) e else .stuck
  | _ => .stuck
theorem si_range1 {tg a : Expr} {p pos : Pos} {G : M (List Rv)} (hg : Gl X "range") (hm : X.mg "range" = none) (h : SA X B W [a] G) (hs : starEach [a] X.env = [(false, eval a X.env)] := by rfl) : SI X B W tg (.Call (.Name "range" p) [a] [] pos) (rng1M G) :=
  ⟨PI.imp (pi_range1 hg hm h.pa hs) fun σ H R ⟨c, e, Rp, p⟩ => tA.bindI p Rp fun c1 H1 e1 vs rs as R1 S1 V1 p1 => by
    split at p1
    · rename_i j w
      split at p1
      · rename_i hj
        cases viewAll_ok R1 V1 w with
        | cons h1 h2 =>
          cases h2
          rw [h1.int]
          obtain ⟨b1, b2⟩ := inR_ok hj
          exact ⟨j, rfl, b1, b2, p1 c1 H1 _ R1 S1 (itR_range 0 _)⟩
      · exact p1.elim
    · exact p1.elim⟩
theorem si_range2 {tg a b : Expr} {p pos : Pos} {G : M (List Rv)} (hg : Gl X "range") (hm : X.mg "range" = none) (h : SA X B W [a, b] G) (hs : starEach [a, b] X.env = [(false, eval a X.env), (false, eval b X.env)] := by rfl) (hs2 : starEach [b] X.env = [(false, eval b X.env)] := by rfl) : SI X B W tg (.Call (.Name "range" p) [a, b] [] pos) (rng2M G) :=
  ⟨PI.imp (pi_range2 hg hm h.pa hs hs2) fun σ H R ⟨c, e, Rp, p⟩ => tA.bindI p Rp fun c1 H1 e1 vs rs as R1 S1 V1 p1 => by
    split at p1
    · rename_i i j w
      split at p1
      · rename_i hj
        simp at hj
        cases viewAll_ok R1 V1 w with
        | cons h1 h2 => cases h2 with
          | cons h2 h3 =>
            cases h3
            rw [h1.int, h2.int]
            obtain ⟨b1, b2⟩ := inR_ok hj.1
            obtain ⟨b3, b4⟩ := inR_ok hj.2
            exact ⟨i, j, rfl, ⟨b1, b2, b3, b4⟩, p1 c1 H1 _ R1 S1 (itR_range i _)⟩
      · exact p1.elim
    · exact p1.elim⟩
/-! zip(a, b) of two lists or two tuples -/
def pairsD (xs ys : List D) : List D := (xs.zip ys).map fun p => .tup [p.1, p.2]
theorem pairs_get {xs ys : List D} {i : Nat} {d : D} (h : (pairsD xs ys)[i]? = some d) : ∃ x y, xs[i]? = some x ∧ ys[i]? = some y ∧ d = .tup [x, y] := by
  unfold pairsD at h
  rw [List.getElem?_map] at h
  cases q : (xs.zip ys)[i]? with
  | none => rw [q] at h; cases h
  | some p =>
    rw [q] at h
    cases h
    obtain ⟨x, y⟩ := p
    have := List.getElem?_zip_eq_some.mp q
    exact ⟨x, y, this.1, this.2, rfl⟩
theorem pairs_none {xs ys : List D} {i : Nat} (h : (pairsD xs ys)[i]? = none) : xs.length ≤ i ∨ ys.length ≤ i := by
  have := List.getElem?_eq_none_iff.mp h
  simp [pairsD] at this
  omega
theorem itR_zipL {a b : Addr} {xs ys : List V} {ds es : List D} (t : ∀ a, c a = .frz → H a ≠ none) (ha : c a = .frz) (hx : H a = some (.lst xs)) (f : FzA K c H xs ds) (hb : c b = .frz) (hy : H b = some (.lst ys)) (g : FzA K c H ys es) : ItR K c H (Itz K a b) (pairsD ds es) := by
  intro i c1 H1 S U
  have h1 : H1 a = some (.lst xs) := by rw [((S.at_ a (t a ha)).2.1 ha).2]; exact hx
  have h2 : H1 b = some (.lst ys) := by rw [((S.at_ b (t b hb)).2.1 hb).2]; exact hy
  have f1 := f.mono (S.frz t)
  have g1 := g.mono (S.frz t)
  refine ⟨fun d hd => ?_, fun hn => ⟨xs, ys, SqL.of h1, SqL.of h2, ?_⟩⟩
  · obtain ⟨x, y, ex, ey, rfl⟩ := pairs_get hd
    obtain ⟨v, v1, v2⟩ := f1.getD ex
    obtain ⟨w, w1, w2⟩ := g1.getD ey
    refine ⟨⟨xs, ys, v, w, SqL.of h1, SqL.of h2, v1, w1⟩, fun z H2 ⟨T, x', y', e1, e2, e3, e4, e5⟩ => ?_⟩
    subst e1 e3
    have a1 := e4 xs (SqL.of h1); rw [v1] at a1; cases a1
    have a2 := e5 ys (SqL.of h2); rw [w1] at a2; cases a2
    obtain ⟨G, N⟩ := new_tup U e2 (FzA.cons v2 (.cons w2 .nil))
    exact ⟨_, G, N⟩
  · rw [f.length, g.length]; exact pairs_none hn
theorem itR_zipT {a b : Addr} {ds es : List D} (t : ∀ a, c a = .frz → H a ≠ none) (f : Fz K c H (.ref a) (.tup ds)) (g : Fz K c H (.ref b) (.tup es)) : ItR K c H (RZ.ItzT K a b) (pairsD ds es) := by
  intro i c1 H1 S U
  obtain ⟨xs, h1, f1⟩ := SqT.step t S f
  obtain ⟨ys, h2, g1⟩ := SqT.step t S g
  refine ⟨fun d hd => ?_, fun hn => ⟨xs, ys, h1, h2, ?_⟩⟩
  · obtain ⟨x, y, ex, ey, rfl⟩ := pairs_get hd
    obtain ⟨v, v1, v2⟩ := f1.getD ex
    obtain ⟨w, w1, w2⟩ := g1.getD ey
    refine ⟨⟨xs, ys, v, w, h1, h2, v1, w1⟩, fun z H2 ⟨T, x', y', e1, e2, e3, e4, e5⟩ => ?_⟩
    subst e1 e3
    have a1 := e4 xs h1; rw [v1] at a1; cases a1
    have a2 := e5 ys h2; rw [w1] at a2; cases a2
    obtain ⟨G, N⟩ := new_tup U e2 (FzA.cons v2 (.cons w2 .nil))
    exact ⟨_, G, N⟩
  · rw [f1.length, g1.length]; exact pairs_none hn
def zipM (G : M (List Rv)) : M (List D) := G.bind fun rs e => match freezeAll rs e with
  | some ([.lst xs, .lst ys], e') => .ok (pairsD xs ys) e'
  | some ([.tup xs, .tup ys], e') => .ok (pairsD xs ys) e'
  | _ => .stuck
theorem si_zip {ts : List Expr} {kk : Nat} {tpos p pos : Pos} {a b : Expr} {G : M (List Rv)} (hg : Gl X "zip") (hm : X.mg "zip" = none) (h : SA X B W [a, b] G)
    (hs : starEach [a, b] X.env = (false, eval a X.env) :: starEach [b] X.env := by rfl) (hpl : (backTo pos (starEach [b] X.env)).any (·.1) = false := by rfl) : SI X B W (.Tuple ts kk tpos) (.Call (.Name "zip" p) [a, b] [] pos) (zipM G) :=
  ⟨PI.imp (RZ.pi_zipA hg hm h.pa hs hpl) fun σ H R ⟨c, e, Rp, p⟩ => tA.bindI p Rp fun c1 H1 e1 vs rs as R1 S1 V1 p1 => by
    split at p1
    · rename_i xs ys e2 w
      obtain ⟨c2, R2, S2, F2, f2⟩ := freezeAll_ok R1 S1 V1 w
      cases F2 with
      | cons a1 a2 => cases a2 with
        | cons a2 a3 =>
          cases a3
          cases a1 with
          | lst h1 h2 h3 => cases a2 with
            | lst k1 k2 k3 => exact ⟨_, _, _, _, rfl, .inl ⟨SqL.of h2, SqL.of k2, p1 c2 H1 _ R2 S2 (itR_zipL R2.trk h1 h2 h3 k1 k2 k3)⟩⟩
    · rename_i xs ys e2 w
      obtain ⟨c2, R2, S2, F2, f2⟩ := freezeAll_ok R1 S1 V1 w
      cases F2 with
      | cons a1 a2 => cases a2 with
        | cons a2 a3 =>
          cases a3
          obtain ⟨p', xs', rfl, g1, g2⟩ := (Vw.fz a1).tup
          obtain ⟨q', ys', rfl, g3, g4⟩ := (Vw.fz a2).tup
          exact ⟨p', q', xs', ys', rfl, .inr ⟨g1, g3, p1 c2 H1 _ R2 S2 (itR_zipT R2.trk a1 a2)⟩⟩
    · exact p1.elim⟩

/-! ### comprehensions -/
structure STs (X : Cx) (B : Bs) (W : WX) (ifs : List Expr) (m : M Bool) : Prop where
  pt : PTs X ifs (tT X.K B W m)
def yesT : M Bool := M.pure true
theorem PTs.imp {ifs : List Expr} {t t' : TT} (h : PTs X ifs t) (i : ∀ σ H Q, t' σ H Q → t σ H Q) : PTs X ifs t' := ⟨fun pins s σ H Q I q => h.run pins s σ H Q I (i σ H Q q)⟩
theorem sts_nil : STs X B W [] yesT := ⟨PTs.imp pts_nil fun σ H Q ⟨c, e, R, p⟩ => p c H R Step.refl⟩
theorem sts_one {cc : Expr} {T : M Bool} (h : STt X B W cc T) : STs X B W [cc] T := ⟨pts_one h.pt⟩
def wipeE (e : Ev) : List Nat → Ev
  | [] => e
  | v :: vs => (wipeE e vs).set v .un
def slFz (e : Ev) (v : Nat) : Bool := match e[v]? with
  | some (.own _) => false
  | some (.io _) => false
  | _ => true
def restE (e0 e : Ev) : List Nat → Ev
  | [] => e
  | v :: vs => (restE e0 e vs).set v (e0.getD v .un)
def lcLoop (vs : List Nat) (g : TGf) (T : M Bool) (A : M Rv) : List D → List D → M (List D)
  | [], acc => M.pure acc
  | d :: ds, acc => fun e => match g d e with
    | some e1 => match T e1 with
      | .ok true e2 => match A e2 with
        | .ok r e3 => match freeze r e3 with
          | some (x, e4) => if acc.length < sizeLine then lcLoop vs g T A ds (acc ++ [x]) (wipeE e4 vs) else .stuck
          | none => .stuck
        | _ => .stuck
      | .ok false e2 => lcLoop vs g T A ds acc (wipeE e2 vs)
      | _ => .stuck
    | none => .stuck
def lcM (vs : List Nat) (g : TGf) (T : M Bool) (A : M Rv) (I : M (List D)) : M Rv := I.bind fun ds e => if vs.all (slFz e) then match lcLoop vs g T A ds [] (wipeE e vs) with
  | .ok acc e2 => .ok (.own (.lst acc)) (restE e e2 vs)
  | _ => .stuck
  else .stuck
theorem wipeE_len (vs : List Nat) : (wipeE e vs).length = e.length := by
  induction vs with
  | nil => rfl
  | cons v vs ih => simp [wipeE, ih]
theorem wipeE_at {j : Nat} {s : Sl} : ∀ {vs : List Nat}, (wipeE e vs)[j]? = some s → (s = .un ∧ j ∈ vs) ∨ (e[j]? = some s ∧ j ∉ vs)
  | [], h => .inr ⟨h, by simp⟩
  | v :: vs, h => by
    unfold wipeE at h
    by_cases q : v = j
    · subst q
      rw [List.getElem?_set] at h
      simp at h
      exact .inl ⟨h.2.symm, by simp⟩
    · rw [List.getElem?_set_ne q] at h
      rcases wipeE_at h with ⟨a, b⟩ | ⟨a, b⟩
      · exact .inl ⟨a, by simp [b]⟩
      · exact .inr ⟨a, by simp [b, Ne.symm q]⟩
theorem wipe_at {j : Nat} : ∀ {vs : List Nat}, (wipe σ vs)[j]? = if j ∈ vs then (if j < σ.length then some none else none) else σ[j]?
  | [] => by simp [wipe]
  | v :: vs => by
    unfold wipe
    by_cases q : v = j
    · subst q
      rw [List.getElem?_set]
      simp [wipe_length]
    · rw [List.getElem?_set_ne q, wipe_at]
      have n : j ≠ v := Ne.symm q
      simp [n]
theorem Rep.wipe {vs : List Nat} {σ' : Sg} (R : Rep K B c σ H e) (hl : σ'.length = σ.length) (hs : ∀ j, j ∉ vs → σ'[j]? = σ[j]?) : Rep K B c (L2.wipe σ' vs) H (wipeE e vs) where
  unt := R.unt
  keep := R.keep
  new := R.new
  io := R.io
  len := by rw [wipe_length, wipeE_len, hl]; exact R.len
  slot j s h := by
    rcases wipeE_at h with ⟨rfl, hj⟩ | ⟨h, hj⟩
    · have l : j < σ'.length := by
        have := (List.getElem?_eq_some_iff.mp h).1
        rw [wipeE_len] at this
        rw [hl, R.len]; exact this
      exact ⟨none, by rw [wipe_at, if_pos hj, if_pos l], trivial⟩
    · obtain ⟨w, h1, h2⟩ := R.slot j s h
      exact ⟨w, by rw [wipe_at, if_neg hj, hs j hj]; exact h1, h2⟩
theorem restE_len {e0 : Ev} (vs : List Nat) : (restE e0 e vs).length = e.length := by
  induction vs with
  | nil => rfl
  | cons v vs ih => simp [restE, ih]
theorem restE_at {e0 : Ev} {j : Nat} {s : Sl} (hl : e0.length = e.length) : ∀ {vs : List Nat}, (restE e0 e vs)[j]? = some s → (e0[j]? = some s ∧ j ∈ vs) ∨ (e[j]? = some s ∧ j ∉ vs)
  | [], h => .inr ⟨h, by simp⟩
  | v :: vs, h => by
    unfold restE at h
    by_cases q : v = j
    · subst q
      rw [List.getElem?_set] at h
      simp [restE_len] at h
      refine .inl ⟨?_, by simp⟩
      obtain ⟨l, h⟩ := h
      have l2 : v < e0.length := by omega
      rw [List.getElem?_eq_getElem l2] at h ⊢
      simpa using h
    · rw [List.getElem?_set_ne q] at h
      rcases restE_at hl h with ⟨a, b⟩ | ⟨a, b⟩
      · exact .inl ⟨a, by simp [b]⟩
      · exact .inr ⟨a, by simp [b, Ne.symm q]⟩
/-- the slots ahead of the block stand again -/
theorem Rep.rest {vs : List Nat} {e0 : Ev} (R0 : Rep K B c0 σ H0 e0) (hv : vs.all (slFz e0) = true) (f : Frz c0 H0 c H) (R : Rep K B c (L2.wipe σ vs) H e) : Rep K B c σ H (restE e0 e vs) where
  unt := R.unt
  keep := R.keep
  new := R.new
  io := R.io
  len := by rw [restE_len, ← R.len, wipe_length]
  slot j s h := by
    have hl : e0.length = e.length := by rw [← R0.len, ← R.len, wipe_length]
    rcases restE_at hl h with ⟨h, hj⟩ | ⟨h, hj⟩
    · obtain ⟨w, h1, h2⟩ := R0.slot j s h
      refine ⟨w, h1, ?_⟩
      have := List.all_eq_true.mp hv j hj
      unfold slFz at this
      rw [h] at this
      cases s with
      | un => trivial
      | fz d => obtain ⟨v, a1, a2⟩ := h2; exact ⟨v, a1, a2.mono f⟩
      | own o => simp at this
      | io o => simp at this
    · obtain ⟨w, h1, h2⟩ := R.slot j s h
      rw [wipe_at, if_neg hj] at h1
      exact ⟨w, h1, h2⟩
theorem wipe_eq {σ' : Sg} {vs is : List Nat} (hl : σ'.length = (wipe σ vs).length) (hi : ∀ i ∈ is, i ∈ vs) (hs : ∀ j, j ∉ is → σ'[j]? = (wipe σ vs)[j]?) : wipe σ' vs = wipe σ vs := by
  refine List.ext_getElem? fun j => ?_
  rw [wipe_at, wipe_at]
  split
  · rw [hl, wipe_length]
  · rename_i hj
    rw [hs j (fun z => hj (hi j z)), wipe_at, if_neg hj]
/-- over any source -/
theorem tLc_of {vs is : List Nat} {g : TGf} {T : M Bool} {A : M Rv} {I : M (List D)} {Q : VK} (hi : ∀ i ∈ is, i ∈ vs) (h : tE K B W (lcM vs g T A I) σ H Q) :
    tLc (tI K B W I) (tG K B is g) (tT K B (fun _ _ _ _ => False) T) (tE K B (fun _ _ _ _ => False) A) vs σ H Q := by
  obtain ⟨c, e, R, p⟩ := h
  refine ⟨c, e, R, ?_⟩
  unfold lcM M.bind at p
  cases q : I e with
  | stuck => rw [q] at p; exact p.elim
  | exc x e1 => rw [q] at p; exact p
  | ok ds e1 =>
    rw [q] at p
    dsimp only at p
    intro c1 H1 J R1 S1 hJ D hD
    split at p
    · rename_i hv
      cases q2 : lcLoop vs g T A ds [] (wipeE e1 vs) with
      | stuck => rw [q2] at p; exact p.elim
      | exc x e2 => rw [q2] at p; exact p.elim
      | ok acc e2 =>
        rw [q2] at p
        dsimp only at p
        -- the invariant
        let Pv : Nat → Hp → Prop := fun i Hi => ∃ ci ei accV accD, Rep K B ci (L2.wipe σ vs) Hi ei ∧ Step c1 H1 ci Hi ∧ Hi D = some (.lst accV) ∧ ci D = .oth ∧ FzA K ci Hi accV accD ∧ lcLoop vs g T A (ds.drop i) accD ei = .ok acc e2
        have hDn : H D = none := Classical.byContradiction fun z => (S1.at_ D z).1 hD
        refine ⟨fun i m Hi => Pv i Hi ∧ i + m = ds.length, ⟨ds.length, ⟨cset c1 D .oth, wipeE e1 vs, [], [], ?_, ?_, upd_same, cset_same, .nil, q2⟩, by omega⟩, fun i m Hi ⟨⟨ci, ei, accV, accD, Ri, Si, hDi, cDi, fi, li⟩, him⟩ => ?_⟩
        · have g1 : Gr c1 H1 (cset c1 D .oth) (upd H1 D (.lst [])) := Gr.new R1.unt hD (by simp)
          exact (R1.wipe (σ' := σ) rfl fun j _ => rfl).grow g1
        · exact (Gr.new (k := .oth) R1.unt hD (by simp)).step
        · cases w : ds[i]? with
          | none =>
            have hlen : ds.length ≤ i := List.getElem?_eq_none_iff.mp w
            have hdrop : ds.drop i = [] := List.drop_eq_nil_of_le hlen
            rw [hdrop] at li
            simp only [lcLoop, M.pure] at li
            injection li with l1 l2
            subst l1 l2
            refine .inl ⟨(hJ i ci Hi Si Ri.unt).2 w, ?_⟩
            refine p ci Hi _ (R1.rest hv (Si.frz R1.trk) Ri) (S1.trans Si) ⟨D, rfl, cDi, hDn, accV, hDi, fi⟩
          | some d =>
            obtain ⟨hgo, hyld⟩ := (hJ i ci Hi Si Ri.unt).1 d w
            have hlt : i < ds.length := (List.getElem?_eq_some_iff.mp w).1
            have hdrop : ds.drop i = d :: ds.drop (i + 1) := by
              rw [List.drop_eq_getElem_cons hlt]
              congr 1
              exact (List.getElem?_eq_some_iff.mp w).2
            rw [hdrop] at li
            simp only [lcLoop] at li
            refine .inr ⟨hgo, Pv (i + 1), fun H' hp => ⟨m - 1, by omega, hp, by omega⟩, fun x H' hy => ?_⟩
            obtain ⟨cy, gy, fy⟩ := hyld x H' hy
            have Ry := Ri.grow gy
            have hDy : H' D = some (.lst accV) := by rw [(gy.gr D (by rw [hDi]; simp)).2]; exact hDi
            have cDy : cy D = .oth := (gy.gr D (by rw [hDi]; simp)).1.trans cDi
            have fiy : FzA K cy H' accV accD := fi.mono (gy.step.frz Ri.trk)
            refine ⟨cy, ei, d, Ry, fy, ?_⟩
            cases w1 : g d ei with
            | none => rw [w1] at li; cases li
            | some e3 =>
              rw [w1] at li
              dsimp only at li
              intro σ2 R2 l2 k2
              refine ⟨wipe_eq l2 hi k2, cy, e3, R2, ?_⟩
              have S2 : Step c1 H1 cy H' := Si.trans gy.step
              have back : ∀ {c4 H4 e4}, Rep K B c4 σ2 H4 e4 → Rep K B c4 (L2.wipe σ vs) H4 (wipeE e4 vs) := fun R4 => by
                have := R4.wipe (vs := vs) (σ' := σ2) rfl fun j _ => rfl
                rwa [wipe_eq l2 hi k2] at this
              cases w2 : T e3 with
              | stuck => rw [w2] at li; cases li
              | exc x e4 => rw [w2] at li; cases li
              | ok b e4 =>
                rw [w2] at li
                intro c4 H4 R4 S4
                obtain ⟨z1, z2, z3, z4⟩ := S4.at_ D (by rw [hDy]; simp)
                obtain ⟨o1, o2⟩ := z3 cDy
                cases b with
                | false =>
                  dsimp only at li
                  rw [if_neg (by simp)]
                  exact ⟨c4, _, accV, accD, back R4, S2.trans S4, o2.trans hDy, o1, fiy.mono (S4.frz Ry.trk), li⟩
                | true =>
                  dsimp only at li
                  rw [if_pos rfl]
                  refine ⟨c4, e4, R4, ?_⟩
                  cases w3 : A e4 with
                  | stuck => rw [w3] at li; cases li
                  | exc x e5 => rw [w3] at li; cases li
                  | ok r e5 =>
                    rw [w3] at li
                    dsimp only at li
                    intro c5 H5 y R5 S5 v5
                    cases w4 : freeze r e5 with
                    | none => rw [w4] at li; cases li
                    | some pr =>
                      obtain ⟨dx, e6⟩ := pr
                      rw [w4] at li
                      dsimp only at li
                      split at li
                      · rename_i hz
                        obtain ⟨c6, R6, S6, F6, f6, o6⟩ := freeze_ok R5 S5 v5 w4
                        have hD4 : H4 D ≠ none := by rw [o2, hDy]; simp
                        obtain ⟨y1, y2, y3, y4⟩ := S6.at_ D hD4
                        obtain ⟨u1, u2⟩ := y3 o1
                        have hD5 : H5 D = some (.lst accV) := u2.trans (o2.trans hDy)
                        refine ⟨accV, hD5, by rw [fi.length]; exact hz, c6, wipeE e6 vs, accV ++ [y], accD ++ [dx], ?_, ?_, upd_same, u1, ?_, li⟩
                        · have R7 := back R6
                          have nf : ∀ b, c6 b = .frz → b ≠ D := fun b hb z => by rw [z, u1] at hb; cases hb
                          refine ⟨fun b hb => ?_, fun b hb => ?_, R7.new, R7.io, R7.len, fun j s h => ?_⟩
                          · by_cases z : b = D
                            · rw [z, upd_same] at hb; cases hb
                            · rw [upd_ne z] at hb; exact R7.unt b hb
                          · by_cases z : b = D
                            · rw [z, upd_same]; simp
                            · rw [upd_ne z]; exact R7.keep b hb
                          · obtain ⟨ww, g1, g2⟩ := R7.slot j s h
                            exact ⟨ww, g1, g2.mono (fun b hb => ⟨hb, fun _ => upd_ne (nf b hb)⟩) fun b hb hc => ⟨rfl, upd_ne fun z => by rw [z, u1] at hc; rcases hc with hc | hc <;> cases hc⟩⟩
                        · have S7 : Step c1 H1 c6 H5 := S2.trans (S4.trans S6)
                          refine ⟨fun b hb => ?_⟩
                          obtain ⟨s1, s2, s3, s4⟩ := S7.at_ b hb
                          have nb : b ≠ D := fun z => hb (by rw [z]; exact hD)
                          rw [upd_ne nb]
                          exact ⟨s1, s2, s3, s4⟩
                        · have nf : ∀ b, c6 b = .frz → b ≠ D := fun b hb z => by rw [z, u1] at hb; cases hb
                          have f7 : Frz cy H' c6 (upd H5 D (.lst (accV ++ [y]))) := fun b hb => by
                            obtain ⟨r1, r2, r3, r4⟩ := (S4.trans S6).at_ b (Ry.trk b hb)
                            exact ⟨(r2 hb).1, fun _ => by rw [upd_ne (nf b (r2 hb).1)]; exact (r2 hb).2⟩
                          exact (fiy.mono f7).append (.cons (F6.mono fun b hb => ⟨hb, fun _ => upd_ne (nf b hb)⟩) .nil)
                      · cases li
    · exact p.elim
end
end Sc

set_option Elab.async false
set_option linter.all false
set_option autoImplicit false
set_option maxRecDepth 100000
set_option maxHeartbeats 4000000
namespace Sc
open PySem PySem.Spec PyProof.Rows L2
abbrev WF : WX := fun _ _ _ _ => False
section
variable {X : Cx} {K : PySem.W.Frag} {B : Bs} {W : WX} {σ : Sg} {c c' c2 c0 : CM} {H H' H2 Hs H0 : Hp} {e e' : Ev}
theorem se_lc {elt tg iter : Expr} {ifs : List Expr} {scope : Scope} {own : List (Str × Nat)} {is vs : List Nat} {pos : Pos} {I : M (List D)} {g : TGf} {T : M Bool} {A : M Rv} (hc : X.calm = true) (hN : X.N.Nodup) (hi : SI X B W tg iter I) (ok : BlkOk X.N X.env.scope scope own) (hv : own.map (·.2) = vs) (his : ∀ i ∈ is, i ∈ vs)
    (hg : ∀ (s : Shared) (H : Hp) (C : Addr) (cl : List (Str × Addr)) (fp : List Addr), SG (X.blk s H scope (compEnvC scope cl C X.env) fp) B tg is g) (ht : ∀ (s : Shared) (H : Hp) (C : Addr) (cl : List (Str × Addr)) (fp : List Addr), STs (X.blk s H scope (compEnvC scope cl C X.env) fp) B WF ifs T)
    (he : ∀ (s : Shared) (H : Hp) (C : Addr) (cl : List (Str × Addr)) (fp : List Addr), SE (X.blk s H scope (compEnvC scope cl C X.env) fp) B WF elt A) (hs : ∀ x, foldedSetIterable iter X.env x = pure x := by intro _; rfl) :
    SE X B W (.ListComp elt [⟨tg, iter, ifs, 0⟩] scope pos) (lcM vs g T A I) := by
  subst hv
  exact ⟨PE.imp (pe_lc hc hN hi.pi ok (fun s H C cl fp => (hg s H C cl fp).pg) (fun s H C cl fp => (ht s H C cl fp).pt) (fun s H C cl fp => (he s H C cl fp).pe) hs) fun σ H Q h => tLc_of his h⟩

/-! ### statements -/
inductive Fl where
  | nx | bk | ct | rt (r : Rt)
def PostS (K : PySem.W.Frag) (B : Bs) (W : WX) (c : CM) (H : Hp) (r : Rs Fl) (Dn : Ends) : Prop := match r with
  | .ok .nx e' => ∀ c' σ' H', Rep K B c' σ' H' e' → Step c H c' H' → Dn.nx σ' H'
  | .ok .bk e' => ∀ c' σ' H', Rep K B c' σ' H' e' → Step c H c' H' → Dn.bk σ' H'
  | .ok .ct e' => ∀ c' σ' H', Rep K B c' σ' H' e' → Step c H c' H' → Dn.ct σ' H'
  | .ok (.rt r) e' => ∀ c' σ' H' v, Rep K B c' σ' H' e' → Step c H c' H' → RtR B.hp K c' H' v r → Dn.rt v H'
  | .exc x e' => ∀ c' σ' H' cls dd, Rep K B c' σ' H' e' → Step c H c' H' → XcR K c' H' x cls dd → W cls dd σ' H'
  | .stuck => False
def tS (K : PySem.W.Frag) (B : Bs) (W : WX) (m : M Fl) : TS := fun Dn σ H => ∃ c e, Rep K B c σ H e ∧ PostS K B W c H (m e) Dn
structure SS (X : Cx) (B : Bs) (W : WX) (st : Stmt) (m : M Fl) : Prop where
  ps : PS X st (tS X.K B W m)
structure SB (X : Cx) (B : Bs) (W : WX) (st : List Stmt) (m : M Fl) : Prop where
  pss : PSs X st (tS X.K B W m)
theorem PostS.step {r : Rs Fl} {Dn : Ends} (S : Step c H c' H') (h : PostS K B W c H r Dn) : PostS K B W c' H' r Dn := by
  cases r with
  | ok f e' => cases f with
    | nx => exact fun c2 σ2 H2 R S2 => h c2 σ2 H2 R (S.trans S2)
    | bk => exact fun c2 σ2 H2 R S2 => h c2 σ2 H2 R (S.trans S2)
    | ct => exact fun c2 σ2 H2 R S2 => h c2 σ2 H2 R (S.trans S2)
    | rt r => exact fun c2 σ2 H2 v R S2 rr => h c2 σ2 H2 v R (S.trans S2) rr
  | exc x e' => exact fun c2 σ2 H2 cls dd R S2 rx => h c2 σ2 H2 cls dd R (S.trans S2) rx
  | stuck => exact h
theorem tE.bindS {A : M Rv} {f : Rv → M Fl} {Dn : Ends} {t : V → Hp → Prop} (h : PostS K B W c H ((A.bind f) e) Dn) (R : Rep K B c σ H e)
    (hf : ∀ c' H' e' v r, Rep K B c' σ H' e' → Step c H c' H' → RvR H K c' σ H' v r → PostS K B W c H (f r e') Dn → t v H') : tE K B W A σ H t := by
  refine ⟨c, e, R, ?_⟩
  unfold M.bind at h
  cases q : A e with
  | ok r e' => rw [q] at h; exact fun c' H' v R' S rv => hf c' H' e' v r R' S rv h
  | exc x e' => rw [q] at h; exact fun c' H' cls dd R' S rx => h c' σ H' cls dd R' S rx
  | stuck => rw [q] at h; exact h
theorem tT.bindS {A : M Bool} {f : Bool → M Fl} {Dn : Ends} {t : Bool → Hp → Prop} (h : PostS K B W c H ((A.bind f) e) Dn) (R : Rep K B c σ H e)
    (hf : ∀ c' H' e' b, Rep K B c' σ H' e' → Step c H c' H' → PostS K B W c' H' (f b e') Dn → t b H') : tT K B W A σ H t := by
  refine ⟨c, e, R, ?_⟩
  unfold M.bind at h
  cases q : A e with
  | ok r e' => rw [q] at h; exact fun c' H' R' S => hf c' H' e' r R' S (h.step S)
  | exc x e' => rw [q] at h; exact fun c' H' cls dd R' S rx => h c' σ H' cls dd R' S rx
  | stuck => rw [q] at h; exact h
def skipM : M Fl := M.pure .nx
def seqM (a b : M Fl) : M Fl := fun e => match a e with
  | .ok .nx e1 => b e1
  | r => r
variable {st : Stmt} {rest : List Stmt} {m m2 : M Fl}
theorem sb_nil : SB X B W [] skipM := ⟨PSs.imp pss_nil fun Dn σ H ⟨c, e, R, p⟩ => p c σ H R Step.refl⟩
theorem sb_one (h : SS X B W st m) : SB X B W [st] m := ⟨pss_one h.ps⟩
theorem sb_cons (h : SS X B W st m) (hr : SB X B W rest m2) : SB X B W (st :: rest) (seqM m m2) :=
  ⟨PSs.imp (pss_cons h.ps hr.pss) fun Dn σ H ⟨c, e, R, p⟩ => by
    refine ⟨c, e, R, ?_⟩
    unfold seqM at p
    cases q : m e with
    | stuck => rw [q] at p; exact p
    | exc x e1 => rw [q] at p; exact p
    | ok f e1 =>
      rw [q] at p
      cases f with
      | nx => exact fun c1 σ1 H1 R1 S1 => ⟨c1, e1, R1, p.step S1⟩
      | bk => exact p
      | ct => exact p
      | rt r => exact p⟩
theorem ss_pass {pos : Pos} : SS X B W (.Pass pos) skipM := ⟨PS.imp ps_pass fun Dn σ H ⟨c, e, R, p⟩ => p c σ H R Step.refl⟩
def breakM : M Fl := M.pure .bk
def contM : M Fl := M.pure .ct
theorem ss_break {pos : Pos} : SS X B W (.Break pos) breakM := ⟨PS.imp ps_break fun Dn σ H ⟨c, e, R, p⟩ => p c σ H R Step.refl⟩
theorem ss_cont {pos : Pos} : SS X B W (.Continue pos) contM := ⟨PS.imp ps_continue fun Dn σ H ⟨c, e, R, p⟩ => p c σ H R Step.refl⟩
def exprM (A : M Rv) : M Fl := A.bind fun _ => M.pure .nx
theorem ss_expr {ex : Expr} {pos : Pos} {A : M Rv} (h : SE X B W ex A) (hs : swapsWith ex none pos.line X.env = pure false := by rfl) : SS X B W (.Expr ex pos) (exprM A) :=
  ⟨PS.imp (ps_expr h.pe hs) fun Dn σ H ⟨c, e, R, p⟩ => tE.bindS p R fun c1 H1 e1 v r R1 S1 _ p1 => p1 c1 σ H1 R1 S1⟩
/-! names -/
theorem Rep.own_set {i : Nat} {a : Addr} {o : O} (R : Rep K B c σ H e) (hc : c a = .oth) (hB : B.hp a = none) (ha : OAt K c H a o) (hi : i < e.length) : Rep K B (cset c a (.own i)) (σ.set i (some (.ref a))) H (e.set i (.own o)) := by
  have f : Frz c H (cset c a (.own i)) H := frz_recol (.inl (by rw [hc]; simp))
  refine ⟨fun b hb => ?_, R.keep, fun b j hb => ?_, fun b j hb => ?_, by rw [List.length_set, List.length_set]; exact R.len, fun j s h => ?_⟩
  · have n : b ≠ a := fun z => ha.some (by rw [← z]; exact hb)
    rw [cset_ne n]; exact R.unt b hb
  · by_cases q : b = a
    · rw [q]; exact hB
    · rw [cset_ne q] at hb; exact R.new b j hb
  · by_cases q : b = a
    · rw [q, cset_same] at hb; cases hb
    · rw [cset_ne q] at hb; exact R.io b j hb
  · by_cases q : i = j
    · subst q
      rw [List.getElem?_set_self hi] at h
      cases h
      have l : i < σ.length := by rw [R.len]; exact hi
      exact ⟨some (.ref a), by rw [List.getElem?_set_self l], a, rfl, cset_same, ha.mono f rfl⟩
    · rw [List.getElem?_set_ne q] at h
      obtain ⟨w, h1, h2⟩ := R.slot j s h
      refine ⟨w, by rw [List.getElem?_set_ne q]; exact h1, h2.mono f fun b _ z => ⟨cset_ne fun y => ?_, rfl⟩⟩
      rw [y, hc] at z
      rcases z with z | z <;> cases z
def setM (i : Nat) (A : M Rv) : M Fl := A.bind fun r e => if i < e.length then match r with
  | .own o => .ok .nx (e.set i (.own o))
  | r => match freeze r e with
    | some (d, e1) => .ok .nx (e1.set i (.fz d))
    | none => .stuck
  else .stuck
theorem freeze_len {r : Rv} {d : D} (h : freeze r e = some (d, e')) : e'.length = e.length := by
  cases r with
  | fz d => cases h; rfl
  | own o => cases h; rfl
  | slot j =>
    simp only [freeze] at h
    cases q : e[j]? with
    | none => simp [q] at h
    | some s =>
      cases s <;> simp [q] at h
      · obtain ⟨_, rfl⟩ := h; rfl
      · obtain ⟨_, rfl⟩ := h; exact List.length_set
theorem gName_of {i : Nat} {v : V} {r : Rv} {Dn : Ends} (R0 : Rep K B c0 σ H0 e') (R : Rep K B c σ H e) (S : Step c0 H0 c H) (h : RvR H0 K c σ H v r)
    (p : PostS K B W c0 H0 ((fun (r : Rv) (e : Ev) => if i < e.length then match r with
      | .own o => .ok .nx (e.set i (.own o))
      | r => match freeze r e with
        | some (d, e1) => .ok .nx (e1.set i (.fz d))
        | none => .stuck
      else .stuck) r e) Dn) : gName i v σ H Dn.nx := by
  dsimp only at p
  split at p
  · rename_i hi
    have fin : ∀ {d : D} {e1 : Ev}, freeze r e = some (d, e1) → PostS K B W c0 H0 (.ok .nx (e1.set i (.fz d))) Dn → gName i v σ H Dn.nx := by
      intro d e1 w p
      obtain ⟨c1, R1, S1, F1, f1, o1⟩ := freeze_ok R S h w
      exact p c1 _ H (R1.set_slot (s := .fz d) ⟨v, rfl, F1⟩ (by rw [freeze_len w]; exact hi)) S1
    cases r with
    | own o =>
      obtain ⟨a, rfl, h2, h3, h4⟩ := h
      have hB : B.hp a = none := Classical.byContradiction fun z => R0.keep a z h3
      exact p _ _ H (R.own_set h2 hB h4 hi) (S.recolF fun z => absurd h3 z)
    | fz d => exact fin (d := d) (e1 := e) rfl p
    | slot j =>
      cases w : freeze (.slot j) e with
      | none => dsimp only at p; rw [w] at p; exact p.elim
      | some pr => obtain ⟨d, e1⟩ := pr; dsimp only at p; rw [w] at p; exact fin w p
  · exact p.elim
theorem ss_set {i : Nat} {x : Str} {ex : Expr} {pos pos' : Pos} {A : M Rv} (hN : X.N.Nodup) (hi : X.N[i]? = some x) (hx : Loc X.env.scope x) (h : SE X B W ex A) (hs : swapsWith ex (some (.Name x pos')) pos.line X.env = pure false := by rfl) (hf : X.fn x = true ∨ X.env.scope.names.lookup x = some .local := by first | exact .inl rfl | exact .inr rfl | assumption) :
    SS X B W (.Assign [.Name x pos'] ex pos) (setM i A) :=
  ⟨PS.imp (ps_set hN hi hx h.pe hs hf) fun Dn σ H ⟨c, e, R, p⟩ => tE.bindS p R fun c1 H1 e1 v r R1 S1 rv p1 => gName_of R R1 S1 rv p1⟩
theorem ss_setLc {i : Nat} {y : Str} {py : Pos} {elt tg iter : Expr} {ifs : List Expr} {scope : Scope} {own : List (Str × Nat)} {is vs : List Nat} {pos spos : Pos} {I : M (List D)} {g : TGf} {T : M Bool} {A : M Rv} (hc : X.calm = true) (hN : X.N.Nodup) (hy : X.N[i]? = some y) (hyl : X.env.scope.names.lookup y = some .local)
    (hsw : swapsWith (.ListComp elt [⟨tg, iter, ifs, 0⟩] scope pos) (some (.Name y py)) spos.line X.env = pure true) (hi : SI X B W tg iter I) (ok : BlkOk X.N X.env.scope scope own) (hv : own.map (·.2) = vs) (his : ∀ i ∈ is, i ∈ vs)
    (hg : ∀ (s : Shared) (H : Hp) (C : Addr) (cl : List (Str × Addr)) (fp : List Addr), SG (X.blk s H scope (compEnvC scope cl C X.env) fp) B tg is g) (ht : ∀ (s : Shared) (H : Hp) (C : Addr) (cl : List (Str × Addr)) (fp : List Addr), STs (X.blk s H scope (compEnvC scope cl C X.env) fp) B WF ifs T)
    (he : ∀ (s : Shared) (H : Hp) (C : Addr) (cl : List (Str × Addr)) (fp : List Addr), SE (X.blk s H scope (compEnvC scope cl C X.env) fp) B WF elt A) (hs : ∀ x, foldedSetIterable iter X.env x = pure x := by intro _; rfl) :
    SS X B W (.Assign [.Name y py] (.ListComp elt [⟨tg, iter, ifs, 0⟩] scope pos) spos) (setM i (lcM vs g T A I)) := by
  subst hv
  exact ⟨PS.imp (ps_setLc hc hN hy hyl hsw hi.pi ok (fun s H C cl fp => (hg s H C cl fp).pg) (fun s H C cl fp => (ht s H C cl fp).pt) (fun s H C cl fp => (he s H C cl fp).pe) hs) fun Dn σ H ⟨c, e, R, p⟩ =>
    tLc_of his (tE.bindS (A := lcM (own.map (·.2)) g T A I) p R fun c1 H1 e1 v r R1 S1 rv p1 => gName_of R R1 S1 rv p1)⟩
/-! unpacking -/
def asgM (g : TGf) (A : M Rv) : M Fl := A.bind fun r e => match freeze r e with
  | some (d, e1) => match g d e1 with
    | some e2 => .ok .nx e2
    | none => .stuck
  | none => .stuck
theorem ss_asg {tg ex : Expr} {pos : Pos} {A : M Rv} {is vs : List Nat} {g : TGf} (h : SE X B W ex A) (hg : SG X B tg is g) (hs : swapsWithSole [tg] ex pos.line X.env = pure false := by rfl) (hw : swappedStores [tg] ex X.env = pure none := by rfl)
    (h1 : (assignEach [tg] X.env).map (·.2) = [assign tg X.env] := by rfl) : SS X B W (.Assign [tg] ex pos) (asgM g A) :=
  ⟨PS.imp (ps_asg h.pe hg.pg hs hw h1) fun Dn σ H ⟨c, e, R, p⟩ => tE.bindS p R fun c1 H1 e1 v r R1 S1 rv p1 => by
    cases w : freeze r e1 with
    | none => rw [w] at p1; exact p1.elim
    | some pr =>
      obtain ⟨d, e2⟩ := pr
      rw [w] at p1
      dsimp only at p1
      obtain ⟨c2, R2, S2, F2, f2, o2⟩ := freeze_ok R1 S1 rv w
      refine ⟨c2, e2, d, R2, F2, ?_⟩
      cases w2 : g d e2 with
      | none => rw [w2] at p1; exact p1.elim
      | some e3 => rw [w2] at p1; exact fun σ' R' _ _ => p1 c2 σ' H1 R' S2⟩
/-! if -/
def ifS (T : M Bool) (a b : M Fl) : M Fl := T.bind fun k => if k then a else b
theorem ss_if {cc : Expr} {a b : List Stmt} {pos : Pos} {T : M Bool} (hc : STt X B W cc T) (ha : SB X B W a m) (hb : SB X B W b m2) : SS X B W (.If cc a b pos) (ifS T m m2) :=
  ⟨PS.imp (ps_if hc.pt ha.pss hb.pss) fun Dn σ H ⟨c, e, R, p⟩ => tT.bindS p R fun c1 H1 e1 k R1 S1 p1 => by
    cases k with
    | true => rw [if_pos rfl]; exact ⟨c1, e1, R1, p1⟩
    | false => rw [if_neg (by simp)]; exact ⟨c1, e1, R1, p1⟩⟩
/-! return -/
def retM (A : M Rv) : M Fl := A.bind fun r e => match r with
  | .fz d => .ok (.rt (.fz d)) e
  | .own o => .ok (.rt (.own o)) e
  | .slot i => match e[i]? with
    | some (.own o) => .ok (.rt (.own o)) (e.set i .un)
    | _ => .stuck
theorem ss_ret {ex : Expr} {pos : Pos} {A : M Rv} (h : SE X B W ex A) : SS X B W (.Return (some ex) pos) (retM A) :=
  ⟨PS.imp (ps_ret h.pe) fun Dn σ H ⟨c, e, R, p⟩ => tE.bindS p R fun c1 H1 e1 v r R1 S1 rv p1 => by
    cases r with
    | fz d => exact p1 c1 σ H1 v R1 S1 rv
    | own o =>
      obtain ⟨a, rfl, h2, h3, h4⟩ := rv
      exact p1 c1 σ H1 _ R1 S1 ⟨a, rfl, h2, Classical.byContradiction fun z => R.keep a z h3, h4⟩
    | slot i =>
      dsimp only at p1
      split at p1
      · rename_i o q
        obtain ⟨a, ea, k2, k3⟩ := slot_at R1 q rv
        cases ea
        have f : Frz c1 H1 (cset c1 a .oth) H1 := frz_recol (.inl (by rw [k2]; simp))
        exact p1 _ σ H1 _ (R1.un_recol k2 k3.some (fun i => by simp)) (S1.recolF fun _ => ⟨i, k2⟩) ⟨a, rfl, cset_same, R1.new a i k2, k3.mono f rfl⟩
      · exact p1.elim⟩
def retN : M Fl := M.pure (.rt (.fz .non))
theorem ss_retN {pos : Pos} : SS X B W (.Return none pos) retN := ⟨PS.imp ps_retN fun Dn σ H ⟨c, e, R, p⟩ => p c σ H .non R Step.refl .non⟩
/-! raise X('..') -/
def raiseM (x : Str) : M Fl := fun e => .exc ⟨x, none⟩ e
theorem ss_raise {x msg : Str} {j : Nat} {p p2 pos pos2 : Pos} (hc : X.calm = true) (tk : Takes X W) (q : PySem.W.excIn X.K (He.ga X.K x) He.veBase "ValueError.__new__" = true) (gC : X.mg x = some (.ref (He.ga X.K x))) (kC : PySem.W.keepIn X.K (.ref (He.ga X.K x)) = true) (r : Raises X (.ref (He.ga X.K x))) (hg : Gl X x)
    (hdb : (x == ("__debug__" : Str)) = false := by decide) : SS X B W (.Raise (some (.Call (.Name x p) [.Constant (.str msg) j p2] [] pos)) none pos2) (raiseM x) :=
  ⟨PS.imp (ps_raise hc tk (pmk_own PySem.F.excBase_ValueError q gC kC r hg hdb)) fun Dn σ H ⟨c, e, R, p⟩ => p c σ H _ none R Step.refl ⟨rfl, trivial⟩⟩
end
end Sc

set_option Elab.async false
set_option linter.all false
set_option autoImplicit false
set_option maxRecDepth 100000
set_option maxHeartbeats 4000000
namespace Sc
open PySem PySem.Spec PyProof.Rows L2
section
variable {X : Cx} {K : PySem.W.Frag} {B : Bs} {W : WX} {σ : Sg} {c c' c2 c0 : CM} {H H' H2 Hs H0 : Hp} {e e' : Ev} {m m2 : M Fl}
/-! ### loops -/
def whileN (T : M Bool) (b : M Fl) : Nat → M Fl
  | 0 => M.stuck
  | n + 1 => fun e => match T e with
    | .ok true e1 => match b e1 with
      | .ok .nx e2 => whileN T b n e2
      | .ok .ct e2 => whileN T b n e2
      | .ok .bk e2 => .ok .nx e2
      | r => r
    | .ok false e1 => .ok .nx e1
    | .exc x e1 => .exc x e1
    | .stuck => .stuck
def Rs.isS {α : Type} : Rs α → Bool
  | .stuck => true
  | _ => false
open Classical in
noncomputable def whileM (T : M Bool) (b : M Fl) : M Fl := fun e => if h : ∃ n, (whileN T b n e).isS = false then whileN T b (Classical.choose h) e else .stuck
theorem whileN_succ {T : M Bool} {b : M Fl} : ∀ (n : Nat) (e : Ev), (whileN T b n e).isS = false → whileN T b (n + 1) e = whileN T b n e
  | 0, e, h => by simp [whileN, M.stuck, Rs.isS] at h
  | n + 1, e, h => by
    have h' := h
    simp only [whileN] at h' ⊢
    cases q : T e with
    | stuck => rfl
    | exc x e1 => rfl
    | ok k e1 =>
      cases k with
      | false => rfl
      | true =>
        simp only [q] at h' ⊢
        cases q2 : b e1 with
        | stuck => rfl
        | exc x e2 => rfl
        | ok f e2 =>
          simp only [q2] at h' ⊢
          cases f with
          | nx => exact whileN_succ n e2 h'
          | ct => exact whileN_succ n e2 h'
          | bk => rfl
          | rt r => rfl
theorem whileN_le {T : M Bool} {b : M Fl} {n k : Nat} {e : Ev} (h : (whileN T b n e).isS = false) (hk : n ≤ k) : whileN T b k e = whileN T b n e := by
  induction hk with
  | refl => rfl
  | step _ ih => rw [whileN_succ _ _ (by rw [ih]; exact h), ih]
theorem whileM_eq {T : M Bool} {b : M Fl} {n : Nat} {e : Ev} (h : (whileN T b n e).isS = false) : whileM T b e = whileN T b n e := by
  unfold whileM
  have hx : ∃ n, (whileN T b n e).isS = false := ⟨n, h⟩
  rw [dif_pos hx]
  have h2 := Classical.choose_spec hx
  generalize Classical.choose hx = k at h2
  rcases Nat.le_total n k with z | z
  · exact whileN_le h z
  · exact (whileN_le h2 z).symm
/-- one turn -/
theorem whileM_step {T : M Bool} {b : M Fl} {e e1 e2 : Ev} (h1 : T e = .ok true e1) (h2 : b e1 = .ok .nx e2) (h3 : (whileM T b e2).isS = false) : whileM T b e = whileM T b e2 := by
  have hx : ∃ n, (whileN T b n e2).isS = false := by
    apply Classical.byContradiction
    intro z
    unfold whileM at h3
    rw [dif_neg z] at h3
    simp [Rs.isS] at h3
  obtain ⟨n, hn⟩ := hx
  have e1' : whileN T b (n + 1) e = whileN T b n e2 := by simp only [whileN, h1, h2]
  rw [whileM_eq hn, whileM_eq (n := n + 1) (by rw [e1']; exact hn), e1']
theorem whileM_done {T : M Bool} {b : M Fl} {e e1 : Ev} (h1 : T e = .ok false e1) : whileM T b e = .ok .nx e1 := by
  have e1' : whileN T b 1 e = .ok .nx e1 := by simp only [whileN, h1]
  rw [whileM_eq (n := 1) (by rw [e1']; rfl), e1']
theorem whileM_exc {T : M Bool} {b : M Fl} {e e1 e2 : Ev} {x : Xc} (h1 : T e = .ok true e1) (h2 : b e1 = .exc x e2) : whileM T b e = .exc x e2 := by
  have e1' : whileN T b 1 e = .exc x e2 := by simp only [whileN, h1, h2]
  rw [whileM_eq (n := 1) (by rw [e1']; rfl), e1']
theorem whileM_ret {T : M Bool} {b : M Fl} {e e1 e2 : Ev} {r : Rt} (h1 : T e = .ok true e1) (h2 : b e1 = .ok (.rt r) e2) : whileM T b e = .ok (.rt r) e2 := by
  have e1' : whileN T b 1 e = .ok (.rt r) e2 := by simp only [whileN, h1, h2]
  rw [whileM_eq (n := 1) (by rw [e1']; rfl), e1']
theorem whileM_excT {T : M Bool} {b : M Fl} {e e1 : Ev} {x : Xc} (h1 : T e = .exc x e1) : whileM T b e = .exc x e1 := by
  have e1' : whileN T b 1 e = .exc x e1 := by simp only [whileN, h1]
  rw [whileM_eq (n := 1) (by rw [e1']; rfl), e1']
theorem ss_while {cc : Expr} {body : List Stmt} {pos : Pos} {T : M Bool} (hp : PassesOwn (model X.prog X.w) X.A X.env X.xe) (hc : STt X B W cc T) (hb : SB X B W body m) : SS X B W (.While cc body [] pos) (whileM T m) :=
  ⟨PS.imp (ps_while hp hc.pt hb.pss) fun Dn σ H ⟨c, e, R, p⟩ => by
    unfold whileM at p
    split at p
    · rename_i hx
      generalize Classical.choose hx = n at p
      refine ⟨fun n σ1 H1 => ∃ c1 e1, Rep X.K B c1 σ1 H1 e1 ∧ Step c H c1 H1 ∧ PostS X.K B W c H (whileN T m n e1) Dn, ⟨n, c, e, R, Step.refl, p⟩, ?_⟩
      intro n σ1 H1 ⟨c1, e1, R1, S1, p1⟩
      cases n with
      | zero => exact p1.elim
      | succ n =>
        refine ⟨c1, e1, R1, ?_⟩
        simp only [whileN] at p1
        cases q : T e1 with
        | stuck => rw [q] at p1; exact p1.elim
        | exc x e2 => rw [q] at p1; exact fun c2 H2 cls dd R2 S2 rx => p1 c2 σ1 H2 cls dd R2 (S1.trans S2) rx
        | ok k e2 =>
          rw [q] at p1
          intro c2 H2 R2 S2
          cases k with
          | false => rw [if_neg (by simp)]; exact p1 c2 σ1 H2 R2 (S1.trans S2)
          | true =>
            rw [if_pos rfl]
            dsimp only at p1
            refine ⟨fun σ' H' => ∃ c1 e1, Rep X.K B c1 σ' H' e1 ∧ Step c H c1 H' ∧ PostS X.K B W c H (whileN T m n e1) Dn, fun σ' H' h => ⟨n, Nat.lt_succ_self n, h⟩, c2, e2, R2, ?_⟩
            have S12 := S1.trans S2
            cases q2 : m e2 with
            | stuck => rw [q2] at p1; exact p1.elim
            | exc x e3 => rw [q2] at p1; exact fun c3 σ3 H3 cls dd R3 S3 rx => p1 c3 σ3 H3 cls dd R3 (S12.trans S3) rx
            | ok f e3 =>
              rw [q2] at p1
              cases f with
              | nx => exact fun c3 σ3 H3 R3 S3 => ⟨c3, e3, R3, S12.trans S3, p1⟩
              | ct => exact fun c3 σ3 H3 R3 S3 => ⟨c3, e3, R3, S12.trans S3, p1⟩
              | bk => exact fun c3 σ3 H3 R3 S3 => p1 c3 σ3 H3 R3 (S12.trans S3)
              | rt r => exact fun c3 σ3 H3 v R3 S3 rr => p1 c3 σ3 H3 v R3 (S12.trans S3) rr
    · exact p.elim⟩
def forL (g : TGf) (b : M Fl) : List D → M Fl
  | [] => M.pure .nx
  | d :: ds => fun e => match g d e with
    | some e1 => match b e1 with
      | .ok .nx e2 => forL g b ds e2
      | .ok .ct e2 => forL g b ds e2
      | .ok .bk e2 => .ok .nx e2
      | r => r
    | none => .stuck
def forM (g : TGf) (b : M Fl) (I : M (List D)) : M Fl := I.bind fun ds => forL g b ds
theorem ss_for {tg iter : Expr} {body : List Stmt} {pos : Pos} {is : List Nat} {g : TGf} {I : M (List D)} (hp : PassesOwn (model X.prog X.w) X.A X.env X.xe) (hc : X.calm = true) (hi : SI X B W tg iter I) (hg : SG X B tg is g) (hb : SB X B W body m) (hs : ∀ x, foldedSetIterable iter X.env x = pure x := by intro _; rfl) :
    SS X B W (.For tg iter body [] pos) (forM g m I) :=
  ⟨PS.imp (ps_for hp hc hi.pi hg.pg hb.pss hs) fun Dn σ H ⟨c, e, R, p⟩ => by
    refine ⟨c, e, R, ?_⟩
    unfold forM M.bind at p
    cases q : I e with
    | stuck => rw [q] at p; exact p.elim
    | exc x e1 => rw [q] at p; exact fun c1 H1 cls dd R1 S1 rx => p c1 σ H1 cls dd R1 S1 rx
    | ok ds e1 =>
      rw [q] at p
      intro c1 H1 J R1 S1 hJ
      let Pv : Nat → Sg → Hp → Prop := fun i σi Hi => ∃ ci ei, Rep X.K B ci σi Hi ei ∧ Step c1 H1 ci Hi ∧ PostS X.K B W c H (forL g m (ds.drop i) ei) Dn
      refine ⟨fun i n σi Hi => Pv i σi Hi ∧ i + n = ds.length, ⟨ds.length, ⟨c1, e1, R1, Step.refl, p⟩, by omega⟩, fun i n σi Hi ⟨⟨ci, ei, Ri, Si, pi⟩, hin⟩ => ?_⟩
      cases w : ds[i]? with
      | none =>
        have hlen : ds.length ≤ i := List.getElem?_eq_none_iff.mp w
        rw [List.drop_eq_nil_of_le hlen] at pi
        exact .inl ⟨(hJ i ci Hi Si Ri.unt).2 w, pi ci σi Hi Ri (S1.trans Si)⟩
      | some d =>
        obtain ⟨hgo, hyld⟩ := (hJ i ci Hi Si Ri.unt).1 d w
        have hlt : i < ds.length := (List.getElem?_eq_some_iff.mp w).1
        have hdrop : ds.drop i = d :: ds.drop (i + 1) := by
          rw [List.drop_eq_getElem_cons hlt]
          congr 1
          exact (List.getElem?_eq_some_iff.mp w).2
        rw [hdrop] at pi
        simp only [forL] at pi
        refine .inr ⟨hgo, Pv (i + 1), fun σ' H' hp => ⟨n - 1, by omega, hp, by omega⟩, fun x H' hy => ?_⟩
        obtain ⟨cy, gy, fy⟩ := hyld x H' hy
        have Ry := Ri.grow gy
        refine ⟨cy, ei, d, Ry, fy, ?_⟩
        cases w1 : g d ei with
        | none => rw [w1] at pi; exact pi.elim
        | some e3 =>
          rw [w1] at pi
          dsimp only at pi
          intro σ2 R2 l2 k2
          refine ⟨cy, e3, R2, ?_⟩
          have S2 : Step c1 H1 cy H' := Si.trans gy.step
          have S02 := S1.trans S2
          cases q2 : m e3 with
          | stuck => rw [q2] at pi; exact pi.elim
          | exc x e4 => rw [q2] at pi; exact fun c3 σ3 H3 cls dd R3 S3 rx => pi c3 σ3 H3 cls dd R3 (S02.trans S3) rx
          | ok f e4 =>
            rw [q2] at pi
            cases f with
            | nx => exact fun c3 σ3 H3 R3 S3 => ⟨c3, e4, R3, S2.trans S3, pi⟩
            | ct => exact fun c3 σ3 H3 R3 S3 => ⟨c3, e4, R3, S2.trans S3, pi⟩
            | bk => exact fun c3 σ3 H3 R3 S3 => pi c3 σ3 H3 R3 (S02.trans S3)
            | rt r => exact fun c3 σ3 H3 v R3 S3 rr => pi c3 σ3 H3 v R3 (S02.trans S3) rr⟩
/-! ### stores -/
end
end Sc

set_option Elab.async false
set_option linter.all false
set_option autoImplicit false
set_option maxRecDepth 100000
set_option maxHeartbeats 400000
namespace Sc
open PySem PySem.Spec PyProof.Rows L2
section
variable {X : Cx} {K : PySem.W.Frag} {B : Bs} {W : WX} {σ : Sg} {c c' c2 c0 : CM} {H H' H2 Hs H0 : Hp} {e e' : Ev} {m m2 : M Fl}
/-- s[i] = v, s a slot that holds a list -/
def putLM (i : Nat) (A C : M Rv) : M Fl := A.bind fun r e => match freeze r e with
  | some (d, e1) => match lstAt i e1 with
    | some _ => (C.bind fun ri e2 => match view ri e2 with
      | some (.int k) => match lstAt i e2 with
        | some (b, ds) => match ixN ds.length k with
          | some j => .ok .nx (e2.set i (slOf b (.lst (ds.set j d))))
          | none => .stuck
        | none => .stuck
      | _ => .stuck) e1
    | none => .stuck
  | none => .stuck
theorem putL_of {i : Nat} {A C : M Rv} {Dn : Ends} (h : tS K B W (putLM i A C) Dn σ H) : tE K B W A σ H fun v H1 => ∃ x, σ[i]? = some (some x) ∧ tE K B W C σ H1 fun y H2 => rSetL x y v H2 (Dn.nx σ) := by
  obtain ⟨c, e, R, p⟩ := h
  refine tE.bindS p R fun c1 H1 e1 v r R1 S1 rv p1 => ?_
  cases w : freeze r e1 with
  | none => rw [w] at p1; exact p1.elim
  | some pr =>
    obtain ⟨d, e2⟩ := pr
    rw [w] at p1
    dsimp only at p1
    obtain ⟨c2, R2, S2, F2, f2, o2⟩ := freeze_ok R1 S1 rv w
    cases w0 : lstAt i e2 with
    | none => rw [w0] at p1; exact p1.elim
    | some kd =>
      obtain ⟨k0, ds0⟩ := kd
      rw [w0] at p1
      dsimp only at p1
      obtain ⟨a, g1, g2, xs0, g3, g4⟩ := sl_at R2 (lstAt_ok w0)
      refine ⟨.ref a, g1, c2, e2, R2, ?_⟩
      unfold M.bind at p1
      cases q : C e2 with
      | stuck => rw [q] at p1; exact p1.elim
      | exc x e3 => rw [q] at p1; exact fun c3 H3 cls dd R3 S3 rx => p1 c3 σ H3 cls dd R3 (S2.trans S3) rx
      | ok ri e3 =>
        rw [q] at p1
        intro c3 H3 y R3 S3 v3
        dsimp only at p1
        split at p1
        · rename_i k wk
          rw [(view_ok R3 v3 wk).int]
          cases w4 : lstAt i e3 with
          | none => rw [w4] at p1; exact p1.elim
          | some bd =>
            obtain ⟨b, ds⟩ := bd
            rw [w4] at p1
            dsimp only at p1
            obtain ⟨a', b1, b2, xs, b3, b4⟩ := sl_at R3 (lstAt_ok w4)
            rw [g1] at b1
            cases b1
            cases w5 : ixN ds.length k with
            | none => rw [w5] at p1; exact p1.elim
            | some j =>
              rw [w5] at p1
              have F3 := F2.mono (S3.frz R2.trk)
              have nf : ∀ z, c3 z = .frz → z ≠ a := fun z hz q => by rw [q, b2] at hz; cases b <;> simp at hz
              have f : Frz c3 H3 c3 (upd H3 a (.lst (xs.set j v))) := fun z hz => ⟨hz, fun _ => upd_ne (nf z hz)⟩
              refine ⟨a, xs, k, j, rfl, rfl, b3, by rw [b4.length]; exact w5, ?_⟩
              obtain ⟨R4, f4⟩ := R3.write (o := .lst (ds.set j d)) g1 b2 (by rw [b3]; simp) (fun s hs => by rw [lstAt_ok w4] at hs; cases hs; exact ⟨_, rfl⟩) ⟨_, upd_same, (FzA.set F3 j b4).mono f⟩
              exact p1 c3 σ _ R4 ((S2.trans S3).write b2)
        · exact p1.elim
theorem ss_putL {o ix ex : Expr} {tpos pos : Pos} {i : Nat} {A C : M Rv} (h : SE X B W ex A) (ho : PE X o (tVar i)) (hi : SE X B W ix C) (hs : swapsWithSole [.Subscript o ix tpos] ex pos.line X.env = pure false := by rfl) (hw : swappedStores [.Subscript o ix tpos] ex X.env = pure none := by rfl)
    (h1 : (assignEach [.Subscript o ix tpos] X.env).map (·.2) = [assign (.Subscript o ix tpos) X.env] := by rfl)
    (ha : ∀ v, assign (.Subscript o ix tpos) X.env v = (do
      let ov ← holding [v] (eval o X.env)
      let iv ← holding [v, ov] (eval ix X.env)
      standAt tpos
      holding [v, ov, iv] (setItem ov iv v)
      release [v, ov, iv] []) := by intro _; rfl) :
    SS X B W (.Assign [.Subscript o ix tpos] ex pos) (putLM i A C) :=
  ⟨PS.imp (ps_asg h.pe (pg_sub ho hi.pe set_list ha) hs hw h1) fun Dn σ H q => putL_of q⟩
/-! o.f = v -/
def putD : Str → D → List Str → List D → Option (List Str × List D)
  | f, d, [], [] => some ([f], [d])
  | f, d, k :: ks, x :: ds => if k = f then some (k :: ks, d :: ds) else match putD f d ks ds with
    | some (ks', ds') => some (k :: ks', x :: ds')
    | none => none
  | _, _, _, _ => none
theorem putD_ok {f : Str} {v : V} {d : D} (hv : Fz K c H v d) : ∀ {fs : List (Str × V)} {ks ks' : List Str} {ds ds' : List D}, fs.map (·.1) = ks → FzA K c H (fs.map (·.2)) ds → putD f d ks ds = some (ks', ds') → (putF f v fs).map (·.1) = ks' ∧ FzA K c H ((putF f v fs).map (·.2)) ds'
  | [], _, _, _, _, rfl, h, w => by
    cases h
    simp [putD] at w
    obtain ⟨rfl, rfl⟩ := w
    exact ⟨rfl, .cons hv .nil⟩
  | (k, x) :: fs, _, ks', ds, ds', rfl, h, w => by
    cases h with
    | @cons _ d0 _ ds0 a b =>
      simp only [List.map_cons, putD] at w
      unfold putF
      split at w
      · rename_i q
        simp at w
        obtain ⟨rfl, rfl⟩ := w
        rw [if_pos q]
        exact ⟨rfl, .cons hv b⟩
      · rename_i q
        rw [if_neg q]
        cases w2 : putD f d (fs.map (·.1)) ds0 with
        | none => rw [w2] at w; cases w
        | some pr =>
          obtain ⟨k2, d2⟩ := pr
          rw [w2] at w
          simp at w
          obtain ⟨rfl, rfl⟩ := w
          obtain ⟨h1, h2⟩ := putD_ok hv rfl b w2
          exact ⟨by rw [List.map_cons, h1], .cons a h2⟩
def objAt (C : Str) (i : Nat) (e : Ev) : Option (Bool × List Str × List D) := match e[i]? with
  | some (.own (.obj C' ks ds)) => if C' = C then some (false, ks, ds) else none
  | some (.io (.obj C' ks ds)) => if C' = C then some (true, ks, ds) else none
  | _ => none
theorem objAt_ok {C : Str} {i : Nat} {k : Bool} {ks : List Str} {ds : List D} (h : objAt C i e = some (k, ks, ds)) : e[i]? = some (slOf k (.obj C ks ds)) := by
  unfold objAt at h
  split at h
  · split at h
    · rename_i q z; subst z; simp at h; obtain ⟨rfl, rfl, rfl⟩ := h; exact q
    · cases h
  · split at h
    · rename_i q z; subst z; simp at h; obtain ⟨rfl, rfl, rfl⟩ := h; exact q
    · cases h
  · cases h
def putFM (C f : Str) (i : Nat) (A : M Rv) : M Fl := A.bind fun r e => match freeze r e with
  | some (d, e1) => match objAt C i e1 with
    | some (k, ks, ds) => if ks.length < 1000 then match putD f d ks ds with
      | some (ks', ds') => .ok .nx (e1.set i (slOf k (.obj C ks' ds')))
      | none => .stuck
      else .stuck
    | none => .stuck
  | none => .stuck
theorem ss_putF {o ex : Expr} {C f : Str} {pos pos' : Pos} {i : Nat} {A : M Rv} (h : SE X B W ex A) (ho : PE X o (tVar i)) (cl : Cls X.K (He.ga X.K C)) (na : NoAttr X.K (He.ga X.K C) f) (hs : swapsWith ex (some (.Attribute o f pos')) pos.line X.env = pure false := by rfl) :
    SS X B W (.Assign [.Attribute o f pos'] ex pos) (putFM C f i A) :=
  ⟨PS.imp (ps_fld ho h.pe hs) fun Dn σ H ⟨c, e, R, p⟩ => tE.bindS p R fun c1 H1 e1 v r R1 S1 rv p1 => by
    cases w : freeze r e1 with
    | none => rw [w] at p1; exact p1.elim
    | some pr =>
      obtain ⟨d, e2⟩ := pr
      rw [w] at p1
      dsimp only at p1
      obtain ⟨c2, R2, S2, F2, f2, o2⟩ := freeze_ok R1 S1 rv w
      cases w0 : objAt C i e2 with
      | none => rw [w0] at p1; exact p1.elim
      | some kd =>
        obtain ⟨k, ks, ds⟩ := kd
        rw [w0] at p1
        dsimp only at p1
        obtain ⟨a, g1, g2, dx, fs, g3, g4, g5⟩ := sl_at R2 (objAt_ok w0)
        split at p1
        · rename_i hl
          cases w2 : putD f d ks ds with
          | none => rw [w2] at p1; exact p1.elim
          | some pr2 =>
            obtain ⟨ks', ds'⟩ := pr2
            rw [w2] at p1
            have nf : ∀ z, c2 z = .frz → z ≠ a := fun z hz q => by rw [q, g2] at hz; cases k <;> simp at hz
            have fr : Frz c2 H1 c2 (upd H1 a (.ins (He.ga X.K C) dx (putF f v fs))) := fun z hz => ⟨hz, fun _ => upd_ne (nf z hz)⟩
            obtain ⟨q1, q2⟩ := putD_ok F2 g4 g5 w2
            obtain ⟨R4, f4⟩ := R2.write (o := .obj C ks' ds') (ho := .ins (He.ga X.K C) dx (putF f v fs)) g1 g2 (by rw [g3]; simp) (fun s hs => by rw [objAt_ok w0] at hs; cases hs; exact ⟨_, rfl⟩) ⟨dx, _, upd_same, q1, q2.mono fr⟩
            exact ⟨.ref a, g1, a, _, dx, fs, rfl, g3, cl, na, by rw [← g4] at hl; simpa using hl, p1 c2 σ _ R4 (S2.write g2)⟩
        · exact p1.elim⟩

/-! ### a def -/
def Arg.sl : Arg → Sl
  | .fz d => .fz d
  | .io o => .io o
def iosOf : List Arg → Ev → Option (List Arg)
  | [], _ => some []
  | .fz d :: as, _ :: e => match iosOf as e with
    | some bs => some (.fz d :: bs)
    | none => none
  | .io _ :: as, .io o :: e => match iosOf as e with
    | some bs => some (.io o :: bs)
    | none => none
  | _, _ => none
def fnRun (n : Nat) (m : M Fl) : Fun := fun as => match m (as.map Arg.sl ++ List.replicate (n - as.length) .un) with
  | .ok .nx e => match iosOf as e with
    | some bs => .ret (.fz .non) bs
    | none => .stuck
  | .ok (.rt r) e => match iosOf as e with
    | some bs => .ret r bs
    | none => .stuck
  | .exc x e => match iosOf as e with
    | some bs => .exc x bs
    | none => .stuck
  | _ => .stuck
/-- the addresses lent to the def -/
def ioMap (c : CM) (vs : List V) : Nat → Option Addr := fun j => match vs[j]? with
  | some (.ref a) => if c a = .io j then some a else none
  | _ => none
theorem args_slot {j : Nat} {vs : List V} {as : List Arg} (h : ArgsR K c H j vs as) : ∀ (i : Nat) (s : Sl), (as.map Arg.sl)[i]? = some s → ∃ v, vs[i]? = some v ∧ RepS K c H (j + i) s (some v) := by
  induction h with
  | nil => intro i s hs; simp at hs
  | @fz j v vs d as a _ ih =>
    intro i s hs
    cases i with
    | zero => simp at hs; subst hs; exact ⟨v, rfl, v, rfl, a⟩
    | succ i =>
      simp only [List.map_cons, List.getElem?_cons_succ] at hs ⊢
      obtain ⟨w, h1, h2⟩ := ih i s hs
      exact ⟨w, h1, by rw [show j + (i + 1) = j + 1 + i by omega]; exact h2⟩
  | @io j a vs o as h1 h2 _ ih =>
    intro i s hs
    cases i with
    | zero => simp at hs; subst hs; exact ⟨_, rfl, a, rfl, h1, h2⟩
    | succ i =>
      simp only [List.map_cons, List.getElem?_cons_succ] at hs ⊢
      obtain ⟨w, g1, g2⟩ := ih i s hs
      exact ⟨w, g1, by rw [show j + (i + 1) = j + 1 + i by omega]; exact g2⟩
theorem args_len {j : Nat} {vs : List V} {as : List Arg} (h : ArgsR K c H j vs as) : vs.length = as.length := by
  induction h with
  | nil => rfl
  | fz _ _ ih => simp [ih]
  | io _ _ _ ih => simp [ih]
theorem args_io {j : Nat} {vs : List V} {as : List Arg} (h : ArgsR K c H j vs as) : ∀ (i : Nat) (o : O), as[i]? = some (.io o) → ∃ a, vs[i]? = some (.ref a) ∧ c a = .io (j + i) := by
  induction h with
  | nil => intro i o h; simp at h
  | @fz j v vs d as a _ ih =>
    intro i o h
    cases i with
    | zero => simp at h
    | succ i =>
      simp only [List.getElem?_cons_succ] at h ⊢
      obtain ⟨b, h1, h2⟩ := ih i o h
      exact ⟨b, h1, by rw [show j + (i + 1) = j + 1 + i by omega]; exact h2⟩
  | @io j a vs o' as h1 h2 _ ih =>
    intro i o h
    cases i with
    | zero => exact ⟨a, rfl, h1⟩
    | succ i =>
      simp only [List.getElem?_cons_succ] at h ⊢
      obtain ⟨b, h1, h2⟩ := ih i o h
      exact ⟨b, h1, by rw [show j + (i + 1) = j + 1 + i by omega]; exact h2⟩
end
end Sc

set_option Elab.async false
set_option linter.all false
set_option autoImplicit false
set_option maxRecDepth 100000
set_option maxHeartbeats 400000
namespace Sc
open PySem PySem.Spec PyProof.Rows L2
section
variable {K : PySem.W.Frag} {B : Bs} {W : WX} {σ : Sg} {c c' c2 c0 : CM} {H H' H2 Hs H0 : Hp} {e e' : Ev} {m m2 : M Fl}
theorem start_rep {N : List Str} {vs : List V} {as : List Arg} (U : Unt c H) (no : ∀ a i, c a ≠ .own i) (io : ∀ a j, c a = .io j → vs[j]? = some (.ref a)) (A : ArgsR K c H 0 vs as) (hl : vs.length ≤ N.length) :
    Rep K ⟨H, ioMap c vs⟩ c (L2.start N vs) H (as.map Arg.sl ++ List.replicate (N.length - as.length) .un) where
  unt := U
  keep a h := h
  new a i h := absurd h (no a i)
  io a i h := by
    show ioMap c vs i = some a
    unfold ioMap
    rw [io a i h]
    dsimp only
    rw [if_pos h]
  len := by
    have := args_len A
    simp [L2.start]
    omega
  slot i s h := by
    have hl2 := args_len A
    unfold L2.start
    by_cases q : i < as.length
    · rw [List.getElem?_append_left (by simpa using q)] at h
      obtain ⟨v, h1, h2⟩ := args_slot A i s h
      rw [Nat.zero_add] at h2
      refine ⟨some v, ?_, h2⟩
      rw [List.getElem?_append_left (by simpa [hl2] using q), List.getElem?_map, h1]
      rfl
    · rw [List.getElem?_append_right (by simpa using q)] at h
      rw [List.getElem?_replicate] at h
      split at h
      · rename_i hi
        cases h
        refine ⟨none, ?_, trivial⟩
        rw [List.getElem?_append_right (by simpa [hl2] using q), List.getElem?_replicate]
        rw [if_pos (by simp at hi ⊢; omega)]
      · cases h
theorem ios_ok {vs : List V} {c1 : CM} {H1 : Hp} {σ1 : Sg} : ∀ {as ios : List Arg} {us : List V} {j : Nat} {e1 : Ev}, Rep K ⟨H, ioMap c vs⟩ c1 σ1 H1 e → (∀ i s, e1[i]? = some s → e[j + i]? = some s) → (∀ i u, us[i]? = some u → vs[j + i]? = some u) → us.length = as.length → iosOf as e1 = some ios → IosR K c1 H1 j us ios := by
  intro as
  induction as with
  | nil =>
    intro ios us j e1 R he hu hl w
    simp [iosOf] at w
    subst w
    cases us with
    | nil => exact .nil
    | cons u us => simp at hl
  | cons a as ih =>
    intro ios us j e1 R he hu hl w
    cases us with
    | nil => simp at hl
    | cons u us =>
      have hu' : ∀ i x, us[i]? = some x → vs[j + 1 + i]? = some x := fun i x hx => by rw [show j + 1 + i = j + (i + 1) by omega]; exact hu (i + 1) x (by simpa using hx)
      cases e1 with
      | nil => cases a <;> simp [iosOf] at w
      | cons s e1 =>
        have he' : ∀ i x, e1[i]? = some x → e[j + 1 + i]? = some x := fun i x hx => by rw [show j + 1 + i = j + (i + 1) by omega]; exact he (i + 1) x (by simpa using hx)
        cases a with
        | fz d =>
          simp only [iosOf] at w
          cases q : iosOf as e1 with
          | none => rw [q] at w; cases w
          | some bs => rw [q] at w; cases w; exact .fz (ih R he' hu' (by simpa using hl) q)
        | io o =>
          cases s <;> simp only [iosOf] at w <;> first | cases w | skip
          rename_i o'
          cases q : iosOf as e1 with
          | none => rw [q] at w; cases w
          | some bs =>
            rw [q] at w; cases w
            have h0 := he 0 (.io o') rfl
            obtain ⟨ww, g1, a, rfl, g2, g3⟩ := R.slot _ _ h0
            have h1 := R.io a _ g2
            have h2 : ioMap c vs (j + 0) = some a := h1
            unfold ioMap at h2
            rw [hu 0 u rfl] at h2
            cases u <;> simp at h2
            obtain ⟨h2, rfl⟩ := h2
            exact .io g2 g3 (ih R he' hu' (by simpa using hl) q)
/-- THE RULE for a def: what its body computes is what it promises -/
theorem def_ok {P : Program} {w : World} {mg : Str → Option Value} {base : Heap} {k : Nat} {f : Addr} {fd : FuncData} {x qual : Str} {params : Arguments} {body : List Stmt} {scope : Scope} {N ps : List Str}
    (F : FunD K x qual params body scope [] [] f fd) (S : FnScope N ps scope) (hps : ps.length ≤ N.length)
    (hb : ∀ (cdv : Value) (A : Around) (outer : List Env) (s : Shared) (H : Hp) (E : XK) (B : Bs) (W : WX), Room k (A.deeper (envOfC qual scope s.heap.objs.size f cdv)) → Takes (cxOf (L2.CX P w) P w K mg base N qual scope f cdv A outer s H E) W →
      SB (cxOf (L2.CX P w) P w K mg base N qual scope f cdv A outer s H E) B W body m) : FnOk P w K mg base (L2.CX P w) (k + 1) f fd ps (spOf K ps.length (fnRun N.length m)) := by
  refine F.ok S (fun vs H Q E h => h.1) fun cdv A outer s H vs Q E hr hsp => ?_
  obtain ⟨hl, c, as, U, no, io, AR, P'⟩ := hsp
  refine ⟨_, (hb cdv A outer s H E ⟨H, ioMap c vs⟩ (fun cls d _ H => E cls d H) hr (takes_of rfl rfl rfl rfl)).pss, ?_⟩
  have R0 := start_rep (N := N) U no io AR (by rw [hl]; exact hps)
  refine ⟨c, _, R0, ?_⟩
  have ea := args_len AR
  have fin : ∀ {c1 σ1 H1 e1 ios}, Rep K ⟨H, ioMap c vs⟩ c1 σ1 H1 e1 → iosOf as e1 = some ios → IosR K c1 H1 0 vs ios := fun R1 q =>
    ios_ok (e1 := _) R1 (fun i s h => by rw [Nat.zero_add]; exact h) (fun i u h => by rw [Nat.zero_add]; exact h) ea q
  unfold fnRun at P'
  generalize as.map Arg.sl ++ List.replicate (N.length - as.length) .un = e0 at *
  cases q : m e0 with
  | stuck => rw [q] at P'; exact P'.elim
  | exc x e1 =>
    rw [q] at P'
    dsimp only at P'
    cases q2 : iosOf as e1 with
    | none => rw [q2] at P'; exact P'.elim
    | some ios =>
      rw [q2] at P'
      exact fun c1 σ1 H1 cls dd R1 S1 rx => P' c1 H1 cls dd R1.unt S1 (fin R1 q2) rx
  | ok fl e1 =>
    rw [q] at P'
    cases fl with
    | bk => exact P'.elim
    | ct => exact P'.elim
    | nx =>
      dsimp only at P'
      cases q2 : iosOf as e1 with
      | none => rw [q2] at P'; exact P'.elim
      | some ios =>
        rw [q2] at P'
        exact fun c1 σ1 H1 R1 S1 => P' c1 H1 .non R1.unt S1 (fin R1 q2) .non
    | rt r =>
      dsimp only at P'
      cases q2 : iosOf as e1 with
      | none => rw [q2] at P'; exact P'.elim
      | some ios =>
        rw [q2] at P'
        exact fun c1 σ1 H1 v R1 S1 rr => P' c1 H1 v R1.unt S1 (fin R1 q2) rr
/-- a def of no level: it promises nothing -/
theorem FnOk.zero {P : Program} {w : World} {mg : Str → Option Value} {base : Heap} {CX : CXT} {f : Addr} {fd : FuncData} {ps : List Str} {n : Nat} {k : Nat} : FnOk P w K mg base CX k f fd ps (spOf K n fun _ => .stuck) where
  len vs H Q E h := by obtain ⟨_, _, _, _, _, _, _, h⟩ := h; exact h.elim
  run A outer s H args us vs Q E _ _ _ _ h := by obtain ⟨_, _, _, _, _, _, _, h⟩ := h; exact h.elim
end
end Sc

set_option Elab.async false
set_option linter.all false
set_option autoImplicit false
set_option maxRecDepth 100000
set_option maxHeartbeats 3200000
namespace Sc
open PySem PySem.Spec PyProof.Rows L2
/-! ### set(a list of texts): how many are unlike -/
def sStep (σ : List Str) (v : Str) : List Str := if v ∈ σ then σ else σ ++ [v]
def sMet (val : Nat → Str) (i : Nat) : List Str := ((List.range i).map val).foldl sStep []
theorem sMet_succ (val : Nat → Str) (i : Nat) : sMet val (i + 1) = sStep (sMet val i) (val i) := by
  unfold sMet; simp [List.range_succ]
theorem sStep_len (σ : List Str) (v : Str) : (sStep σ v).length ≤ σ.length + 1 := by unfold sStep; split <;> simp
theorem sMet_len (val : Nat → Str) : ∀ i, (sMet val i).length ≤ i
  | 0 => by simp [sMet]
  | i + 1 => by rw [sMet_succ]; have a := sStep_len (sMet val i) (val i); have b := sMet_len val i; omega
theorem sStep_mem (σ : List Str) (v k : Str) : decide (k ∈ sStep σ v) = (decide (k ∈ σ) || decide (k = v)) := by
  unfold sStep
  by_cases h : v ∈ σ
  · rw [if_pos h]
    by_cases e : k = v
    · subst e; simp [h]
    · simp [e]
  · rw [if_neg h]; simp [List.mem_append, Bool.decide_or]
theorem sStep_n (σ : List Str) (v : Str) : (sStep σ v).length = if decide (v ∈ σ) = true then σ.length else σ.length + 1 := by
  unfold sStep
  by_cases h : v ∈ σ <;> simp [h]
section
variable {prog : Program} {w : World} {A : Around} {R : Result → Shared → Prop} {I : Addr} {fp wr : List Addr} {G : Array GenState → Array GenState → Prop} {n : Nat} {P : Nat → Value → Prop} {St : Nat → Shared → Prop}
theorem setTxt_loop (Wk : WalksS prog w A.in1 I fp wr G n P St) (S : Addr) (hSf : S ∉ fp) (val : Nat → Str) (hval : ∀ i v, P i v → ∃ t, v = .str (val i) t) (hb : n + 1 < scanBound) :
    ∀ (k i : Nat) (s : Shared), n - i = k → i ≤ n → St i s → s.heap.SetOf (strKind prog w) S (fun x => decide (x ∈ sMet val i)) (sMet val i).length →
      (∀ s', Moved (S :: wr) G s s' → s'.heap.SetOf (strKind prog w) S (fun x => decide (x ∈ sMet val n)) (sMet val n).length → R (.ok (.ret .none)) s') →
      codeAny (model prog w) A (.builtin "set.update.loop" ⟨[.ref S, .ref I], []⟩) R s := by
  have nw : S ∉ wr := fun h => hSf (Wk.sub _ h)
  intro k
  induction k with
  | zero =>
    intro i s hk hi hst hS hR
    have : i = n := by omega
    subst this
    refine codeAny_builtin PyProof.Rows.F.entry_set_update_loop ?_
    rw [Around.under_plainId PyProof.Rows.F.plain_set_update_loop _]
    refine wpAny_bind (m := pyNext (.ref I)) (Wk.done s _ _ hst fun s' hm => wpAny_pure (hR s' (hm.mono fun b hb => List.mem_cons_of_mem _ hb) ?_))
    obtain ⟨o, es, ep, t, ho, rest⟩ := hS
    exact ⟨o, es, ep, t, hm.heap S _ nw ho, rest⟩
  | succ k ih =>
    intro i s hk hi hst hS hR
    have lt : i < n := by omega
    refine codeAny_builtin PyProof.Rows.F.entry_set_update_loop ?_
    rw [Around.under_plainId PyProof.Rows.F.plain_set_update_loop _]
    refine wpAny_bind (m := pyNext (.ref I)) (Wk.item i s _ _ lt hst fun v s' hP hst' hm => ?_)
    obtain ⟨t, rfl⟩ := hval i v hP
    have hS1 : s'.heap.SetOf (strKind prog w) S (fun x => decide (x ∈ sMet val i)) (sMet val i).length := by
      obtain ⟨o, es, ep, tb, ho, rest⟩ := hS
      exact ⟨o, es, ep, tb, hm.heap S _ nw ho, rest⟩
    refine wpAny_bind (m := holding [Value.str (val i) t] (setAdd S (.str (val i) t))) (wpAny_holding ?_)
    unfold setAdd
    refine wpAny_holding (wpAny_bind ((strKind prog w).pyHash (k := val i) (strKind_is _ _ _ _) ?_))
    have room : (sMet val i).length + 1 < scanBound := by have := sMet_len val i; omega
    refine wpAny_setAddHashed_of (knd := strKind prog w) (s := { s' with toks := s'.toks + 1 }) (strKind_is _ _ _ _) rfl hS1 room fun h' hsb hS2 => ?_
    have hS3 : h'.SetOf (strKind prog w) S (fun x => decide (x ∈ sMet val (i + 1))) (sMet val (i + 1)).length :=
      SetOf_congr hS2 (fun x => by rw [sMet_succ, sStep_mem]) (by rw [sMet_succ, sStep_n])
    refine wpAny_pure ⟨plainId_quiet PyProof.Rows.F.plain_set_update_loop _, ih (i + 1) _ (by omega) lt (Wk.frame _ s' _ _ hst' (Nat.le_succ _) fun b hb o e => by rw [hsb.2 b fun z => hSf (by rw [← z]; exact hb)]; exact e) hS3 fun s2 hm2 hS4 => ?_⟩
    refine hR s2 (Moved.trans Wk.gtrans ((hm.mono fun b hb => List.mem_cons_of_mem _ hb).then_heap (Nat.le_succ _) fun b o hb e => ?_) hm2) hS4
    rw [hsb.2 b fun z => hb (by rw [z]; exact List.mem_cons_self)]; exact e
theorem strs_at : ∀ {vs : List Value} {ns : List Str}, PyProof.Rows.StrsAre vs ns → ∀ (i : Nat) (v : Value), vs[i]? = some v → ∃ t, v = .str (ns.getD i Str.empty) t
  | _, _, .nil, i, v, h => by simp at h
  | _, _, .cons n t hr, 0, v, h => ⟨t, by simpa using h.symm⟩
  | _, _, .cons n t hr, i + 1, v, h => by
    obtain ⟨t', e⟩ := strs_at hr i v (by simpa using h)
    exact ⟨t', by rw [e]; rfl⟩
end
section
variable {prog : Program} {w : World} {A : Around} {E : Value → Shared → Prop} {s : Shared}
theorem setTxt_call {l : Addr} {items : Array Value} {ns : List Str} {Q : Value → Shared → Prop}
    (hh : A.handled = none) (hl : s.heap.IsList l items) (hi : PyProof.Rows.StrsAre items.toList ns) (hb : items.size + 1 < scanBound)
    (h : ∀ (h' : Heap) (tk : Nat), h'.SetOf (strKind prog w) s.heap.objs.size (fun x => decide (x ∈ sMet (fun i => ns.getD i Str.empty) items.size)) (sMet (fun i => ns.getD i Str.empty) items.size).length →
      (∀ b o, b < s.heap.objs.size → s.heap.get? b = some o → h'.get? b = some o) → Q (.ref s.heap.objs.size) { s with heap := h', toks := tk }) :
    wpAny (model prog w) A (call (.type "set") [.ref l]) Q E s := by
  obtain ⟨c, tl, hmro⟩ := PySem.F.called_set.mro
  have hmade := PySem.F.called_set.made
  have hsub := PySem.F.called_set.sub
  refine wpAny_call (codeAny_of_tree ?_)
  show wpAny _ _ (callAny (.type "set") _) _ _ _
  refine wpAny_pure ⟨Code.quiet_builtin _ (by decide +kernel), codeAny_builtin PySem.F.entry_type_call ?_⟩
  rw [Around.under_plain (weight_type_call_type "set" [.ref l] []) rfl]
  have h1 := PySem.F.called_set.notType
  have h2 := PySem.F.called_set.canCreate
  have hct := PySem.F.typeCall_set_1 (.ref l)
  repeat (any_goals (first | assumption | wp_step))
  refine codeAny_mono (code_set_new_1 (.ref l) (E := E) (Q₁ := fun obj s₁ => ∃ led : Bool, obj = .ref s.heap.objs.size ∧ s₁ = { s with heap := s.heap.push { cls := .type "set", dict := none, data := .set #[] 0 (.fresh 0 0 led) } }) fun led => ⟨led, rfl, rfl⟩) fun r s₁ hr => ?_
  cases r with
  | error e => exact hr
  | ok fl =>
    cases fl with
    | ret obj =>
      obtain ⟨led, rfl, rfl⟩ := hr
      have hS : (s.heap.push { cls := .type "set", dict := none, data := .set #[] 0 (.fresh 0 0 led) }).get? s.heap.objs.size = some { cls := .type "set", dict := none, data := .set #[] 0 (.fresh 0 0 led) } := Heap.get?_push_size _ rfl
      have hT : Shared.TypeIs { s with heap := s.heap.push { cls := .type "set", dict := none, data := .set #[] 0 (.fresh 0 0 led) } } (.ref s.heap.objs.size) "set" := ⟨_, hS, rfl⟩
      have hli := PySem.F.called_set.init.lookup
      have hbi := PySem.F.called_set.init.bind (.ref s.heap.objs.size)
      repeat (any_goals (first | assumption | wp_step))
      refine codeAny_mono (codeAny_call_builtin (R := wants (fun r s₂ => r = .none ∧ ∃ h' tk, s₂ = { s with heap := h', toks := tk } ∧
          h'.SetOf (strKind prog w) s.heap.objs.size (fun x => decide (x ∈ sMet (fun i => ns.getD i Str.empty) items.size)) (sMet (fun i => ns.getD i Str.empty) items.size).length ∧
          (∀ b o, b < s.heap.objs.size → s.heap.get? b = some o → h'.get? b = some o)) E) PySem.F.called_set.init.plain PySem.F.entry_set_init (check_set_init_1 hT ?_)) fun r₂ s₂ hr₂ => ?_
      · obtain ⟨ol, hol, hcl, nl, hdl⟩ := hl
        obtain ⟨ocls, odict, odata, oslots⟩ := ol
        simp only at hcl hdl
        subst hcl; subst hdl
        have hol' : (s.heap.push { cls := .type "set", dict := none, data := .set #[] 0 (.fresh 0 0 led) }).get? l = some { cls := .type "list", dict := odict, data := .seq items nl, slots := oslots } := Heap.get?_push_of_some _ hol
        have hsls := PySem.F.sub_list_set
        have hslf := PySem.F.sub_list_frozenset
        have hne : (Value.type "list" == Value.type "dict") = false := by decide
        have hl1 : (s.heap.push { cls := .type "set", dict := none, data := .set #[] 0 (.fresh 0 0 led) }).IsList l items := ⟨_, hol', rfl, nl, rfl⟩
        unfold Builtin.«set.__init__» noKeywords Builtin.Frozenset.updateFrom
        generalize hPI : pyIter = PI
        wp_walk
        subst hPI
        refine wpAny_pyIter_list hl1 ?_
        refine wpAny_bind (wpAny_runValue ?_)
        have hlS : l < s.heap.objs.size := Heap.lt_size hol
        have hh3 : A.in1.in1.in1.handled = none := by simp [hh]
        have hneI : l ≠ (s.heap.push { cls := .type "set", dict := none, data := .set #[] 0 (.fresh 0 0 led) }).objs.size := by
          rw [Heap.size_push]; exact Nat.ne_of_lt (Nat.lt_succ_of_lt hlS)
        have hSf : s.heap.objs.size ∉ [(s.heap.push { cls := .type "set", dict := none, data := .set #[] 0 (.fresh 0 0 led) }).objs.size, l] := by
          rw [Heap.size_push]; simp only [List.mem_cons, List.mem_singleton, List.not_mem_nil, or_false, not_or]
          exact ⟨Nat.ne_of_lt (Nat.lt_succ_self _), Nat.ne_of_gt hlS⟩
        have hval : ∀ (i : Nat) (v : Value), items[i]? = some v → ∃ t, v = .str ((fun i => ns.getD i Str.empty) i) t := fun i v hv =>
          strs_at hi i v (by rw [Array.getElem?_toList]; exact hv)
        refine setTxt_loop ((Walks.list hh3 _ l hneI items).toS) s.heap.objs.size
          hSf (fun i => ns.getD i Str.empty) hval hb (items.size - 0) 0 _ (by omega) (Nat.zero_le _)
          ⟨⟨_, Heap.get?_push_size _ rfl, rfl, rfl⟩, (hl1.push _)⟩ ?hS0 ?hR
        case hS0 =>
          have hget : ((s.heap.push { cls := .type "set", dict := none, data := .set #[] 0 (.fresh 0 0 led) }).push { cls := .type "list_iterator", data := .fields #[.ref l, .int 0 0] }).get? s.heap.objs.size
              = some { cls := .type "set", dict := none, data := .set #[] 0 (.fresh 0 0 led) } := Heap.get?_push_of_some _ hS
          exact SetOf_congr ((setObjOf_fresh (knd := strKind prog w) led).setOf hget (by unfold scanBound; omega)) (fun _ => rfl) rfl
        case hR =>
          intro s' hm hS'
          obtain ⟨h', g', d', tk', os'⟩ := s'
          have eg : g' = s.gens := hm.gens
          have ed : d' = s.drawn := hm.drawn
          have eo : os' = s.os := hm.os
          subst eg; subst ed; subst eo
          show wpAny _ _ _ _ _ _
          refine wpAny_pure ?_
          show wpAny _ _ (ret Value.none) _ _ _
          refine wpAny_pure ⟨rfl, h', tk', rfl, hS', fun b o hb e => ?_⟩
          have hb1 : b ≠ s.heap.objs.size := Nat.ne_of_lt hb
          have hb2 : b ≠ (s.heap.push { cls := .type "set", dict := none, data := .set #[] 0 (.fresh 0 0 led) }).objs.size := by
            rw [Heap.size_push]; exact Nat.ne_of_lt (Nat.lt_succ_of_lt hb)
          exact hm.heap b o (by simp only [List.mem_cons, List.mem_singleton, List.not_mem_nil, or_false, not_or]; exact ⟨hb1, hb2⟩) (Heap.get?_push_of_some _ (Heap.get?_push_of_some _ e))
      · cases r₂ with
        | error e => exact hr₂
        | ok fl₂ =>
          cases fl₂ with
          | ret r =>
            obtain ⟨rfl, h', tk, rfl, hS', hk'⟩ := hr₂
            repeat (any_goals (first | assumption | wp_step))
            exact h _ _ hS' hk'
          | _ => exact hr₂.elim
    | _ => exact hr.elim
end
/-- how many unlike texts -/
def unlike (xs : List Str) : Nat := (xs.foldl sStep []).length
theorem sMet_all (xs : List Str) : sMet (fun i => xs.getD i Str.empty) xs.length = xs.foldl sStep [] := by
  unfold sMet
  congr 1
  refine List.ext_getElem (by simp) fun i h1 h2 => ?_
  simp at h1 h2 ⊢
  rw [List.getElem?_eq_getElem h2]; rfl
section
variable {X : Cx} {K : PySem.W.Frag} {B : Bs} {W : WX} {σ : Sg} {c c' c2 c0 : CM} {H H' H2 Hs H0 : Hp} {e e' : Ev}
def tSetTxt (K : PySem.W.Frag) (ta : TE) : TE := fun σ H Q => ta σ H fun x H1 => ∃ (l : Addr) (xs : List Str), x = .ref l ∧ SqL K H1 l (xs.map V.str) ∧ xs.length ≤ 4000 ∧ Q (.int (unlike xs : Nat)) H1
theorem unlike_le (xs : List Str) : unlike xs ≤ xs.length := by
  have := sMet_len (fun i => xs.getD i Str.empty) xs.length
  rwa [sMet_all] at this
theorem pe_setTxt {a : Expr} {ta : TE} {p p2 q pos : Pos} (hg : Gl X "len") (hm : X.mg "len" = none) (hg2 : Gl X "set") (hm2 : X.mg "set" = none) (ha : PE X a ta) (hc : X.calm = true)
    (na : starEach [a] X.env = (false, eval a X.env) :: starEach [] X.env) : PE X (.Call (.Name "len" p) [.Call (.Name "set" p2) [a] [] q] [] pos) (tSetTxt X.K ta) := by
  refine ⟨fun pins s σ H Q I h => ?_⟩
  refine Call_ (ld_blt I hg hm boot_len (PyProof.Rows.callWith_builtin1 (PyProof.Rows.args_cons (Call_ (ld_blt I hg2 hm2 boot_set ?_)) rfl) rfl rfl))
  refine PyProof.Rows.callWith_type1 (PyProof.Rows.args_cons (thn (ha.run pins s σ H _ I h) fun v s1 ⟨x, H1, I1, r1, l, xs, ex, hq, hl, q1⟩ => PyProof.Rows.args_nil ?_) na) na rfl
  subst ex
  cases r1
  obtain ⟨its, r, pl, hz⟩ := I1.list hq
  have hlen : its.toArray.size = xs.length := by rw [List.size_toArray, ← r.length, List.length_map]
  refine setTxt_call (I1.ok.hd hc) pl.isList (by simpa using Vals.strs r) (by rw [hlen]; unfold scanBound; omega) fun h' tk hS hk => PyProof.Rows.args_nil ?_
  rw [hlen, sMet_all] at hS
  obtain ⟨o, es, ep, t, ho, hex, hd, _, _, _, hf, hn⟩ := hS
  have I2 : Inv X pins σ H1 { s1 with heap := h', toks := tk } := I1.kept fun b o e => hk b o (Heap.lt_size e) e
  have hu := unlike_le xs
  unfold unlike at hu
  exact call_len_set ho hex hd hf (by rw [hn]; omega) ⟨.int (unlike xs : Nat), H1, I2.tok _, ⟨_, by rw [hn]; rfl⟩, q1⟩
def lenSetM (A : M Rv) : M Rv := A.bind fun r e => match view r e with
  | some (.lst ds) => match strsOf ds with
    | some xs => if xs.length ≤ 4000 then .ok (.fz (.int (unlike xs : Nat))) e else .stuck
    | none => .stuck
  | _ => .stuck
theorem se_lenSet {a : Expr} {A : M Rv} {p p2 q pos : Pos} (hg : Gl X "len") (hm : X.mg "len" = none) (hg2 : Gl X "set") (hm2 : X.mg "set" = none) (ha : SE X B W a A) (hc : X.calm = true := by rfl)
    (na : starEach [a] X.env = (false, eval a X.env) :: starEach [] X.env := by rfl) : SE X B W (.Call (.Name "len" p) [.Call (.Name "set" p2) [a] [] q] [] pos) (lenSetM A) :=
  ⟨PE.imp (pe_setTxt hg hm hg2 hm2 ha.pe hc na) fun σ H Q ⟨c, e, R, p⟩ => tE.bind p R fun c1 H1 e1 v1 r1 R1 S1 q1 p1 => by
    split at p1
    · rename_i ds w
      cases w2 : strsOf ds with
      | none => rw [w2] at p1; exact p1.elim
      | some xs =>
        rw [w2] at p1
        dsimp only at p1
        split at p1
        · rename_i hl
          obtain ⟨l, vs, rfl, g1, g2⟩ := (view_ok R1 q1 w).list
          have := strsOf_ok g2 w2
          subst this
          exact ⟨l, xs, rfl, SqL.of g1, hl, p1 c1 H1 _ R1 Step.refl (.int _)⟩
        · exact p1.elim
    · exact p1.elim⟩
/-! ### little things -/
theorem se_gstr {x z : Str} {pos : Pos} (h : ∃ t, X.mg x = some (.str z t)) (hg : Gl X x) (hd : (x == ("__debug__" : Str)) = false := by decide) : SE X B W (.Name x pos) (constM (.str z)) := by
  obtain ⟨t, h⟩ := h
  exact se_const (pe_glob (v := .str z) hg h ⟨t, rfl⟩ hd) rfl
theorem se_gint {x : Str} {i : Int} {pos : Pos} (h : ∃ t, X.mg x = some (.int i t)) (hg : Gl X x) (hd : (x == ("__debug__" : Str)) = false := by decide) : SE X B W (.Name x pos) (constM (.int i)) := by
  obtain ⟨t, h⟩ := h
  exact se_const (pe_glob (v := .int i) hg h ⟨t, rfl⟩ hd) rfl
theorem hu65 {A : Around} {k : Nat} (hr : Room k A) : A.units + 65 < cLine := by have := hr.un; omega
theorem hu64 {A : Around} {k : Nat} (hr : Room k A) : A.units + 64 < cLine := by have := hr.un; omega
theorem hu1 {A : Around} {k : Nat} (hr : Room k A) : A.units + 1 < cLine := by have := hr.un; omega
theorem bt_len : bootBuiltins "len" = some (.builtin "len") := by decide +kernel
theorem bt_all : bootBuiltins "all" = some (.builtin "all") := by decide +kernel
theorem bt_any : bootBuiltins "any" = some (.builtin "any") := by decide +kernel
theorem bt_max : bootBuiltins "max" = some (.builtin "max") := by decide +kernel
theorem bt_min : bootBuiltins "min" = some (.builtin "min") := by decide +kernel
theorem bt_sum : bootBuiltins "sum" = some (.builtin "sum") := by decide +kernel
theorem bt_isinstance : bootBuiltins "isinstance" = some (.builtin "isinstance") := by decide +kernel
theorem bt_int : bootBuiltins "int" = some (.type "int") := by decide +kernel
theorem bt_str : bootBuiltins "str" = some (.type "str") := by decide +kernel
theorem bt_bool : bootBuiltins "bool" = some (.type "bool") := by decide +kernel
theorem bt_tuple : bootBuiltins "tuple" = some (.type "tuple") := by decide +kernel
theorem bt_list : bootBuiltins "list" = some (.type "list") := by decide +kernel
end
end Sc

set_option Elab.async false
set_option linter.all false
set_option autoImplicit false
set_option maxRecDepth 100000
set_option maxHeartbeats 400000
namespace Sc
open PySem Builtin Builtin.Str
/-! ### texts as lists of codes -/
def S (l : List Nat) : Str := ⟨l.toArray⟩
theorem S_app (a b : List Nat) : S a ++ S b = S (a ++ b) := by
  show Str.append (S a) (S b) = _
  unfold Str.append S; simp
theorem S_len (a : List Nat) : (S a).length = a.length := by simp [S, Str.length]
theorem S_cps (a : List Nat) : (S a).cps.toList = a := by simp [S]
theorem S_inj {a b : List Nat} : S a = S b ↔ a = b := by
  constructor
  · intro h; have := congrArg (fun s => s.cps.toList) h; simpa [S] using this
  · intro h; rw [h]
theorem S_of (z : Str) : S z.cps.toList = z := by cases z; simp [S]
/-- put between -/
def joinT (sep : List Nat) : List (List Nat) → List Nat
  | [] => []
  | [x] => x
  | x :: y :: r => x ++ sep ++ joinT sep (y :: r)
theorem S_join (sep : List Nat) : ∀ xs : List (List Nat), Txt.join (S sep) (xs.map S) = S (joinT sep xs) := by
  intro xs
  show glued (S sep) (xs.map S) = _
  rw [PySem.StrLaws.glued_eq_join]
  induction xs with
  | nil => rfl
  | cons x xs ih => cases xs with
    | nil => rfl
    | cons y r =>
      show S x ++ S sep ++ Str.join (S sep) ((y :: r).map S) = _
      rw [ih, S_app, S_app]; rfl
theorem S_starts (a b : List Nat) (i : Nat) (h : i ≤ a.length) : Txt.startswith3 (S a) (S b) (i : Int) = b.isPrefixOf (a.drop i) := by
  unfold Txt.startswith3
  have e : PySem.fromIndex (S a).length (i : Int) = i := by unfold PySem.fromIndex; rw [if_neg (by omega)]; omega
  rw [e, PySem.StrLaws.subAt_eq, S_len, S_len, S_cps, S_cps]
  by_cases p : b.isPrefixOf (a.drop i) = true
  · rw [p]
    obtain ⟨r, hr⟩ := List.isPrefixOf_iff_prefix.mp p
    have hl : i + b.length ≤ a.length := by
      have := congrArg List.length hr
      simp at this; omega
    have : (a.drop i).take b.length = b := by rw [← hr]; simp
    simp [hl, this]
  · rw [Bool.eq_false_iff.mpr p]
    have : ¬ ((a.drop i).take b.length = b) := fun q => p (List.isPrefixOf_iff_prefix.mpr (by rw [← q]; exact List.take_prefix _ _))
    simp [this]
end Sc

set_option Elab.async false
set_option linter.all false
set_option autoImplicit false
set_option maxRecDepth 100000
set_option maxHeartbeats 400000
namespace Sc
open PySem L2
/-! ### what isinstance says -/
theorem kit_str_str : kitB "str" "str" = some true := by decide +kernel
theorem kit_str_tuple : kitB "str" "tuple" = some false := by decide +kernel
theorem kit_str_int : kitB "str" "int" = some false := by decide +kernel
theorem kit_str_bool : kitB "str" "bool" = some false := by decide +kernel
theorem kit_int_str : kitB "int" "str" = some false := by decide +kernel
theorem kit_int_int : kitB "int" "int" = some true := by decide +kernel
theorem kit_int_bool : kitB "int" "bool" = some false := by decide +kernel
theorem kit_int_tuple : kitB "int" "tuple" = some false := by decide +kernel
theorem kit_bool_int : kitB "bool" "int" = some true := by decide +kernel
theorem kit_bool_bool : kitB "bool" "bool" = some true := by decide +kernel
theorem kit_bool_tuple : kitB "bool" "tuple" = some false := by decide +kernel
theorem kit_bool_str : kitB "bool" "str" = some false := by decide +kernel
theorem kit_tuple_tuple : kitB "tuple" "tuple" = some true := by decide +kernel
theorem kit_tuple_str : kitB "tuple" "str" = some false := by decide +kernel
theorem kit_tuple_int : kitB "tuple" "int" = some false := by decide +kernel
theorem kit_tuple_bool : kitB "tuple" "bool" = some false := by decide +kernel
theorem kit_none_tuple : kitB "NoneType" "tuple" = some false := by decide +kernel
theorem kit_none_str : kitB "NoneType" "str" = some false := by decide +kernel
theorem kit_none_int : kitB "NoneType" "int" = some false := by decide +kernel
theorem kit_none_bool : kitB "NoneType" "bool" = some false := by decide +kernel
theorem kit_list_tuple : kitB "list" "tuple" = some false := by decide +kernel
theorem kit_list_str : kitB "list" "str" = some false := by decide +kernel
theorem kit_list_int : kitB "list" "int" = some false := by decide +kernel
/-! ### loops -/
/-- a comprehension whose parts are known -/
theorem lcLoop_map {vs : List Nat} {g : TGf} {T : M Bool} {A : M Rv} (f : D → D) : ∀ (ds acc : List D) (e : Ev), acc.length + ds.length ≤ sizeLine →
    (∀ d ∈ ds, ∃ e1 e2 r e3 e4, g d e = some e1 ∧ T e1 = .ok true e2 ∧ A e2 = .ok r e3 ∧ freeze r e3 = some (f d, e4) ∧ wipeE e4 vs = e) → lcLoop vs g T A ds acc e = .ok (acc ++ ds.map f) e
  | [], acc, e, _, _ => by simp [lcLoop, M.pure]
  | d :: ds, acc, e, hl, h => by
    obtain ⟨e1, e2, r, e3, e4, h1, h2, h3, h4, h5⟩ := h d (by simp)
    simp only [List.length_cons] at hl
    have hl' : acc.length < sizeLine := by omega
    simp only [lcLoop, h1, h2, h3, h4, if_pos hl', h5]
    rw [lcLoop_map f ds (acc ++ [f d]) e (by simp; omega) fun x hx => h x (by simp [hx])]
    simp
/-- a comprehension by an invariant -/
theorem lcLoop_inv {vs : List Nat} {g : TGf} {T : M Bool} {A : M Rv} (P : Nat → List D → Ev → Prop) : ∀ (ds : List D) (k : Nat) (acc : List D) (e : Ev), P k acc e → acc.length + ds.length ≤ sizeLine →
    (∀ j d acc e, ds[j]? = some d → P (k + j) acc e → ∃ e1 e2 r e3 x e4, g d e = some e1 ∧ T e1 = .ok true e2 ∧ A e2 = .ok r e3 ∧ freeze r e3 = some (x, e4) ∧ P (k + j + 1) (acc ++ [x]) (wipeE e4 vs)) →
    ∃ acc' e', lcLoop vs g T A ds acc e = .ok acc' e' ∧ P (k + ds.length) acc' e'
  | [], k, acc, e, h, _, _ => ⟨acc, e, rfl, h⟩
  | d :: ds, k, acc, e, h, hl, hs => by
    obtain ⟨e1, e2, r, e3, x, e4, h1, h2, h3, h4, h5⟩ := hs 0 d acc e rfl h
    simp only [List.length_cons] at hl
    have hl' : acc.length < sizeLine := by omega
    obtain ⟨acc', e', q1, q2⟩ := lcLoop_inv P ds (k + 1) (acc ++ [x]) (wipeE e4 vs) h5 (by simp; omega) fun j d acc e hj hp => by
      have := hs (j + 1) d acc e (by simpa using hj) (by rw [show k + (j + 1) = k + 1 + j by omega]; exact hp)
      rwa [show k + (j + 1) + 1 = k + 1 + j + 1 by omega] at this
    refine ⟨acc', e', ?_, by rw [List.length_cons, show k + (ds.length + 1) = k + 1 + ds.length by omega]; exact q2⟩
    simp only [lcLoop, h1, h2, h3, h4, if_pos hl']
    exact q1
theorem forL_inv {g : TGf} {b : M Fl} (P : Nat → Ev → Prop) : ∀ (ds : List D) (k : Nat) (e : Ev), P k e →
    (∀ j d e, ds[j]? = some d → P (k + j) e → ∃ e1 e2, g d e = some e1 ∧ b e1 = .ok .nx e2 ∧ P (k + j + 1) e2) → ∃ e', forL g b ds e = .ok .nx e' ∧ P (k + ds.length) e'
  | [], k, e, h, _ => ⟨e, rfl, h⟩
  | d :: ds, k, e, h, hs => by
    obtain ⟨e1, e2, h1, h2, h3⟩ := hs 0 d e rfl h
    obtain ⟨e', q1, q2⟩ := forL_inv P ds (k + 1) e2 h3 fun j d e hj hp => by
      have := hs (j + 1) d e (by simpa using hj) (by rw [show k + (j + 1) = k + 1 + j by omega]; exact hp)
      rwa [show k + (j + 1) + 1 = k + 1 + j + 1 by omega] at this
    refine ⟨e', ?_, by rw [List.length_cons, show k + (ds.length + 1) = k + 1 + ds.length by omega]; exact q2⟩
    simp only [forL, h1, h2]
    exact q1
theorem lcM_eq {vs : List Nat} {g : TGf} {T : M Bool} {A : M Rv} {I : M (List D)} {e e1 e2 : Ev} {ds acc : List D} (hI : I e = .ok ds e1) (hv : vs.all (slFz e1) = true) (hl : lcLoop vs g T A ds [] (wipeE e1 vs) = .ok acc e2) : lcM vs g T A I e = .ok (.own (.lst acc)) (restE e1 e2 vs) := by
  simp [lcM, M.bind, hI, hv, hl]
theorem forM_eq {g : TGf} {b : M Fl} {I : M (List D)} {e e1 : Ev} {ds : List D} (hI : I e = .ok ds e1) : forM g b I e = forL g b ds e1 := by
  simp [forM, M.bind, hI]
theorem sStep_nd {σ : List Str} {v : Str} (h : v ∉ σ) : sStep σ v = σ ++ [v] := by simp [sStep, h]
theorem unlike_nd : ∀ (xs σ : List Str), (σ ++ xs).Nodup → xs.foldl sStep σ = σ ++ xs
  | [], σ, _ => by simp
  | x :: xs, σ, h => by
    have h2 : x ∉ σ := fun z => by
      rw [List.nodup_append] at h
      exact h.2.2 x z x (by simp) rfl
    rw [List.foldl_cons, sStep_nd h2, unlike_nd xs (σ ++ [x]) (by simpa using h)]
    simp
theorem unlike_of {xs : List Str} (h : xs.Nodup) : unlike xs = xs.length := by
  unfold unlike
  rw [unlike_nd xs [] (by simpa using h)]
  rfl
end Sc

set_option Elab.async false
set_option linter.all false
set_option autoImplicit false
set_option maxHeartbeats 400000
namespace Sc
open PySem L2
theorem sz0 : (0 ≤ sizeLine) = True := eq_true (by unfold sizeLine; omega)
theorem sz1 : (1 ≤ sizeLine) = True := eq_true (by unfold sizeLine; omega)
theorem sz2 : (2 ≤ sizeLine) = True := eq_true (by unfold sizeLine; omega)
theorem sz3 : (3 ≤ sizeLine) = True := eq_true (by unfold sizeLine; omega)
theorem sz4 : (4 ≤ sizeLine) = True := eq_true (by unfold sizeLine; omega)
theorem sz5 : (5 ≤ sizeLine) = True := eq_true (by unfold sizeLine; omega)
theorem sz6 : (6 ≤ sizeLine) = True := eq_true (by unfold sizeLine; omega)
theorem sq0 : (0 < sizeLine) = True := eq_true (by unfold sizeLine; omega)
theorem sq1 : (1 < sizeLine) = True := eq_true (by unfold sizeLine; omega)
theorem sq2 : (2 < sizeLine) = True := eq_true (by unfold sizeLine; omega)
theorem sq3 : (3 < sizeLine) = True := eq_true (by unfold sizeLine; omega)
theorem sq4 : (4 < sizeLine) = True := eq_true (by unfold sizeLine; omega)
theorem sq5 : (5 < sizeLine) = True := eq_true (by unfold sizeLine; omega)
theorem sq6 : (6 < sizeLine) = True := eq_true (by unfold sizeLine; omega)
theorem boolsOf_true {α : Type} (l : List α) : boolsOf (l.map fun _ => D.bl true) = some (l.map fun _ => true) := by
  induction l with
  | nil => rfl
  | cons a l ih => simp only [List.map_cons, boolsOf, ih]
theorem all_tt {α : Type} (l : List α) : ((l.map fun _ => true).all fun b => b) = true := by simp
theorem forL_pre {α : Type} {g : TGf} {b : M Fl} (f : α → D) (P : List α → Ev → Prop) : ∀ (post pre : List α) (e : Ev), P pre e →
    (∀ p x q e, pre ++ post = p ++ x :: q → P p e → ∃ e1 e2, g (f x) e = some e1 ∧ b e1 = .ok .nx e2 ∧ P (p ++ [x]) e2) → ∃ e', forL g b (post.map f) e = .ok .nx e' ∧ P (pre ++ post) e'
  | [], pre, e, h, _ => ⟨e, rfl, by simpa using h⟩
  | x :: post, pre, e, h, hs => by
    obtain ⟨e1, e2, h1, h2, h3⟩ := hs pre x post e rfl h
    obtain ⟨e', q1, q2⟩ := forL_pre f P post (pre ++ [x]) e2 h3 fun p y q e hj hp => hs p y q e (by rw [← hj]; simp) hp
    exact ⟨e', by simp only [List.map_cons, forL, h1, h2]; exact q1, by simpa using q2⟩
theorem forL_all {α : Type} {g : TGf} {b : M Fl} (f : α → D) (P : List α → Ev → Prop) (xs : List α) (e : Ev) (h : P [] e)
    (hs : ∀ p x q e, xs = p ++ x :: q → P p e → ∃ e1 e2, g (f x) e = some e1 ∧ b e1 = .ok .nx e2 ∧ P (p ++ [x]) e2) : ∃ e', forL g b (xs.map f) e = .ok .nx e' ∧ P xs e' := by
  have := forL_pre (g := g) (b := b) f P xs [] e h (by simpa using hs)
  simpa using this

/-- one turn of a for loop -/
def forS (g : TGf) (b : M Fl) (d : D) (e : Ev) : Option Ev := match g d e with
  | some e1 => match b e1 with
    | .ok .nx e2 => some e2
    | _ => none
  | none => none
theorem forS_some {g : TGf} {b : M Fl} {d : D} {e e2 : Ev} (h : forS g b d e = some e2) : ∃ e1, g d e = some e1 ∧ b e1 = .ok .nx e2 := by
  unfold forS at h
  split at h
  · rename_i e1 h1
    refine ⟨e1, h1, ?_⟩
    split at h
    · rename_i q; cases h; exact q
    · cases h
  · cases h
theorem forM_all {α : Type} {g : TGf} {b : M Fl} {I : M (List D)} (f : α → D) (P : List α → Ev → Prop) (xs : List α) (e : Ev) {e1 : Ev} (hI : I e = .ok (xs.map f) e1) (h : P [] e1)
    (hs : ∀ p x q e, xs = p ++ x :: q → P p e → ∃ e2, forS g b (f x) e = some e2 ∧ P (p ++ [x]) e2) : ∃ e', forM g b I e = .ok .nx e' ∧ P xs e' := by
  obtain ⟨e', h1, h2⟩ := forL_all (g := g) (b := b) f P xs e1 h fun p x q e hx hp => by
    obtain ⟨e2, q1, q2⟩ := hs p x q e hx hp
    obtain ⟨e3, q3, q4⟩ := forS_some q1
    exact ⟨e3, e2, q3, q4, q2⟩
  exact ⟨e', by rw [forM_eq hI]; exact h1, h2⟩
/-- one turn of a comprehension -/
def lcS (g : TGf) (T : M Bool) (A : M Rv) (d : D) (e : Ev) : Option (D × Ev) := match g d e with
  | some e1 => match T e1 with
    | .ok true e2 => match A e2 with
      | .ok r e3 => freeze r e3
      | _ => none
    | _ => none
  | none => none
theorem lcS_some {g : TGf} {T : M Bool} {A : M Rv} {d x : D} {e e4 : Ev} (h : lcS g T A d e = some (x, e4)) : ∃ e1 e2 r e3, g d e = some e1 ∧ T e1 = .ok true e2 ∧ A e2 = .ok r e3 ∧ freeze r e3 = some (x, e4) := by
  unfold lcS at h
  split at h
  · rename_i e1 h1
    split at h
    · rename_i e2 h2
      split at h
      · rename_i r e3 h3
        exact ⟨e1, e2, r, e3, h1, h2, h3, h⟩
      · cases h
    · cases h
  · cases h
/-- a comprehension over mapped items with a plain answer -/
theorem lcM_map {α : Type} {vs : List Nat} {g : TGf} {T : M Bool} {A : M Rv} {I : M (List D)} (f h : α → D) (xs : List α) {e e1 e2 : Ev} (hI : I e = .ok (xs.map f) e1) (hv : vs.all (slFz e1) = true) (hl : xs.length ≤ sizeLine)
    (hs : ∀ x ∈ xs, ∃ e5, lcS g T A (f x) (wipeE e1 vs) = some (h x, e5) ∧ wipeE e5 vs = wipeE e1 vs) (he : restE e1 (wipeE e1 vs) vs = e2) : lcM vs g T A I e = .ok (.own (.lst (xs.map h))) e2 := by
  have go : ∀ (xs : List α) (acc : List D), acc.length + xs.length ≤ sizeLine → (∀ x ∈ xs, ∃ e5, lcS g T A (f x) (wipeE e1 vs) = some (h x, e5) ∧ wipeE e5 vs = wipeE e1 vs) → lcLoop vs g T A (xs.map f) acc (wipeE e1 vs) = .ok (acc ++ xs.map h) (wipeE e1 vs) := by
    intro xs
    induction xs with
    | nil => intro acc _ _; simp [lcLoop, M.pure]
    | cons x xs ih =>
      intro acc hl hs
      obtain ⟨e5, h0, h5⟩ := hs x (by simp)
      obtain ⟨e2, e3, r, e4, h1, h2, h3, h4⟩ := lcS_some h0
      simp only [List.length_cons] at hl
      have hl' : acc.length < sizeLine := by omega
      simp only [List.map_cons, lcLoop, h1, h2, h3, h4, if_pos hl', h5]
      rw [ih (acc ++ [h x]) (by simp; omega) fun y hy => hs y (by simp [hy])]
      simp
  rw [lcM_eq hI hv (by simpa using go xs [] (by simpa using hl) hs), he]
end Sc

set_option linter.all false
set_option autoImplicit false
set_option Elab.async false
namespace Sc
open PySem L2
theorem eqOF_int (a b : Int) : eqOF (.int a) (.int b) = some (.fz (.bl (a == b))) := by
  have h : eqF (.int a) (.int b) = some (a == b) := rfl
  simp only [eqOF, h]; rfl
theorem neOF_int (a b : Int) : neOF (.int a) (.int b) = some (.fz (.bl (!(a == b)))) := by
  have h : eqF (.int a) (.int b) = some (a == b) := rfl
  simp only [neOF, h]; rfl
theorem addF_ll (a b : List D) : addF (.lst a) (.lst b) = if a.length + b.length ≤ sizeLine then some (.own (.lst (a ++ b))) else none := rfl
theorem addF_tt (a b : List D) : addF (.tup a) (.tup b) = if a.length + b.length ≤ sizeLine then some (.fz (.tup (a ++ b))) else none := rfl
theorem addF_ii (a b : Int) : addF (.int a) (.int b) = some (.fz (.int (a + b))) := rfl
theorem addS {a b : List Nat} (h : a.length + b.length ≤ 1000000) : addF (.str (S a)) (.str (S b)) = some (.fz (.str (S (a ++ b)))) := by
  show (if (S a).length + (S b).length ≤ sizeLine then some (Rv.fz (.str (S a ++ S b))) else none) = _
  rw [if_pos (by rw [S_len, S_len]; unfold sizeLine; omega), S_app]
theorem joinT_cons (sep x : List Nat) (xs : List (List Nat)) : joinT sep (x :: xs) = x ++ xs.flatMap (sep ++ ·) := by
  induction xs generalizing x with
  | nil => simp [joinT]
  | cons y ys ih => show x ++ sep ++ joinT sep (y :: ys) = _; rw [ih y]; simp
theorem joinT_len (sep : List Nat) (ls : List (List Nat)) : (ls.map List.length).sum + ls.length * sep.length ≤ (joinT sep ls).length + sep.length := by
  cases ls with
  | nil => simp [joinT]
  | cons x xs =>
    rw [joinT_cons]
    have : (xs.flatMap (sep ++ ·)).length = (xs.map List.length).sum + xs.length * sep.length := by
      induction xs with
      | nil => simp
      | cons y ys ih => simp only [List.flatMap_cons, List.length_append, ih, List.map_cons, List.sum_cons, List.length_cons, Nat.succ_mul]; omega
    simp only [List.length_append, this, List.map_cons, List.sum_cons, List.length_cons, Nat.succ_mul]; omega
theorem strsOf_S' : ∀ ls : List (List Nat), strsOf (ls.map fun l => .str (S l)) = some (ls.map S)
  | [] => rfl
  | l :: ls => by simp only [List.map_cons, strsOf, strsOf_S' ls]
theorem joinL_S {sep : List Nat} {ls : List (List Nat)} (h : (joinT sep ls).length ≤ 1000000) (hs : sep.length ≤ 1000) : joinL (S sep) (ls.map fun l => .str (S l)) = some (.fz (.str (S (joinT sep ls)))) := by
  unfold joinL
  rw [strsOf_S']
  have e : ((ls.map S).map (·.length)).sum = (ls.map List.length).sum := by rw [List.map_map]; exact congrArg List.sum (List.map_congr_left fun x _ => S_len x)
  have := joinT_len sep ls
  show (if ((ls.map S).map (·.length)).sum + (ls.map S).length * (S sep).length ≤ 16777216 then some (Rv.fz (.str (Txt.join (S sep) (ls.map S)))) else none) = _
  rw [if_pos (by rw [e, S_len, List.length_map]; omega), S_join]
/-- codes that a text may hold -/
def okT (l : List Nat) : Prop := ∀ c ∈ l, c < 0x110000
theorem eqOF_S {a b : List Nat} (ha : okT a) (hb : okT b) : eqOF (.str (S a)) (.str (S b)) = some (.fz (.bl (S a == S b))) := by
  have sa : ∀ l : List Nat, okT l → SeqAt.shaped (.str (S l)) = true := fun l h => by
    have : PyData.strOk (S l) = true := by
      unfold PyData.strOk S
      simp only [List.all_toArray, List.all_eq_true, decide_eq_true_eq]
      exact h
    show (PyData.strOk (S l) && decide (0 ≤ 64)) = true
    rw [this]; rfl
  have h : eqF (.str (S a)) (.str (S b)) = some (S a == S b) := by
    show (if SeqAt.shaped (.str (S a)) && SeqAt.shaped (.str (S b)) then some (PyData.eqv (.str (S a)) (.str (S b))) else none) = _
    rw [sa a ha, sa b hb]; rfl
  simp only [eqOF, h]; rfl
/-- where a reader stands: i signs read, r is left -/
structure At (l : List Nat) (i : Nat) (r : List Nat) : Prop where
  le : i ≤ l.length
  eq : l.drop i = r
theorem At.step {l w r : List Nat} {i : Nat} (h : At l i (w ++ r)) : At l (i + w.length) r := by
  have e := h.eq
  have hl := congrArg List.length e
  simp only [List.length_drop, List.length_append] at hl
  refine ⟨?_, ?_⟩
  · have := h.le; omega
  · rw [← List.drop_drop, e, List.drop_left]
theorem At.one {l r : List Nat} {i c : Nat} (h : At l i (c :: r)) : At l (i + 1) r := At.step (w := [c]) h
theorem At.lt {l r : List Nat} {i c : Nat} (h : At l i (c :: r)) : i < l.length := by
  have hl := congrArg List.length h.eq
  simp only [List.length_drop, List.length_cons] at hl; omega
theorem At.get {l r : List Nat} {i c : Nat} (h : At l i (c :: r)) : l[i]? = some c := by
  have := congrArg (fun z => z[0]?) h.eq
  simpa [List.getElem?_drop] using this
theorem At.end {l : List Nat} {i : Nat} (h : At l i []) : i = l.length := by
  have hl := congrArg List.length h.eq
  simp only [List.length_drop, List.length_nil] at hl; have := h.le; omega
theorem At.zero (l : List Nat) : At l 0 l := ⟨by omega, rfl⟩
theorem ix_S {l r : List Nat} {i c : Nat} (h : At l i (c :: r)) (hs : l.length ≤ 10000) : ixF (.str (S l)) (.int (i : Int)) = some (.fz (.str (S [c]))) := by
  have hz : (S l).length ≤ sizeLine := by rw [S_len]; unfold sizeLine; omega
  have ha : atI (S l).cps.toList (i : Int) = some c := by
    rw [S_cps]
    unfold atI ixN
    simp only [show ¬ ((i : Int) < 0) by omega, if_false, show ((i : Int) < (l.length : Int)) from by have := h.lt; omega, if_true, Int.toNat_natCast]
    simpa using h.get
  show (if (S l).length ≤ sizeLine then (atI (S l).cps.toList i).map fun s => Rv.fz (.str ⟨#[s]⟩) else none) = _
  rw [if_pos hz, ha]; rfl
theorem sl_S {l w r : List Nat} {i : Nat} (h : At l i (w ++ r)) (hs : l.length ≤ 10000) : slF (.str (S l)) (some (i : Int)) (some ((i + w.length : Nat) : Int)) = some (.fz (.str (S w))) := by
  have hz : (S l).length ≤ sizeLine := by rw [S_len]; unfold sizeLine; omega
  show (if (S l).length ≤ sizeLine then some (Rv.fz (.str (cutS (S l) (some (i : Int)) (some ((i + w.length : Nat) : Int))))) else none) = _
  rw [if_pos hz]
  unfold cutS
  have h2 := h.step.le
  rw [HT.sIx_nat, HT.sIx_nat, S_cps, S_len, Nat.min_eq_left h.le, Nat.min_eq_left h2, h.eq, Nat.add_sub_cancel_left, List.take_left]
  rfl
theorem lcM_inv {vs : List Nat} {g : TGf} {T : M Bool} {A : M Rv} {I : M (List D)} {e e1 : Ev} {ds : List D} (P : List D → Ev → Prop) (hI : I e = .ok ds e1) (hv : vs.all (slFz e1) = true) (hl : ds.length ≤ sizeLine) (h0 : P [] (wipeE e1 vs))
    (hs : ∀ d ∈ ds, ∀ acc e, P acc e → ∃ x e5, lcS g T A d e = some (x, e5) ∧ P (acc ++ [x]) (wipeE e5 vs)) : ∃ acc e2, lcM vs g T A I e = .ok (.own (.lst acc)) (restE e1 e2 vs) ∧ P acc e2 ∧ acc.length = ds.length := by
  obtain ⟨acc, e', h1, h2, h3⟩ := lcLoop_inv (vs := vs) (g := g) (T := T) (A := A) (fun k acc e => P acc e ∧ acc.length = k) ds 0 [] (wipeE e1 vs) ⟨h0, rfl⟩ (by simpa using hl) (fun j d acc e hj ⟨hp, hk⟩ => by
    obtain ⟨x, e5, q1, q2⟩ := hs d (List.mem_of_getElem? hj) acc e hp
    obtain ⟨a1, a2, r, a3, b1, b2, b3, b4⟩ := lcS_some q1
    exact ⟨a1, a2, r, a3, x, e5, b1, b2, b3, b4, q2, by simp [hk]⟩)
  exact ⟨acc, e', lcM_eq hI hv h1, h2, by simpa using h3⟩
theorem mulR (i : Int) {j : Int} (h : -(2 ^ 64) < j) (h2 : j < 2 ^ 64) : mulF (.int i) (.int j) = some (.fz (.int (i * j))) := by
  have : ((decide (-(2 ^ 64) < i) && decide (i < 2 ^ 64)) || (decide (-(2 ^ 64) < j) && decide (j < 2 ^ 64))) = true := by simp; omega
  show (if _ then some (Rv.fz (.int (i * j))) else none) = _
  rw [if_pos this]
theorem mulL {i : Int} (j : Int) (h : -(2 ^ 64) < i) (h2 : i < 2 ^ 64) : mulF (.int i) (.int j) = some (.fz (.int (i * j))) := by
  have : ((decide (-(2 ^ 64) < i) && decide (i < 2 ^ 64)) || (decide (-(2 ^ 64) < j) && decide (j < 2 ^ 64))) = true := by simp; omega
  show (if _ then some (Rv.fz (.int (i * j))) else none) = _
  rw [if_pos this]
theorem modI (i : Int) {j : Int} (h : 0 < j) : modF (.int i) (.int j) = some (.fz (.int (i % j))) := by
  have : decide (0 < j) = true := by simp [h]
  show (if _ then some (Rv.fz (.int (i % j))) else none) = _
  rw [if_pos this]
theorem fdivI (i : Int) {j : Int} (h : 0 < j) (h2 : j < 1073741824) : fdivF (.int i) (.int j) = some (.fz (.int (i / j))) := by
  have : (decide (0 < j) && decide (j < 1073741824)) = true := by simp [h, h2]
  show (if _ then some (Rv.fz (.int (i / j))) else none) = _
  rw [if_pos this]
theorem range_get {j m : Nat} {d : D} (h : (rangeD 0 m)[j]? = some d) : d = .int (j : Int) ∧ j < m := by
  unfold rangeD at h
  rw [List.getElem?_map] at h
  by_cases q : j < m
  · rw [List.getElem?_range q] at h
    simp at h
    exact ⟨h.symm, q⟩
  · rw [List.getElem?_eq_none (by simp; omega)] at h
    cases h
theorem range_len (m : Nat) : (rangeD 0 m).length = m := by simp [rangeD]
theorem inR_nat {m : Nat} (h : m ≤ 1000000) : inR (m : Int) = true := by
  unfold inR
  simp only [Bool.and_eq_true, decide_eq_true_eq]
  omega
theorem forM_idx {g : TGf} {b : M Fl} {I : M (List D)} {m : Nat} (P : Nat → Ev → Prop) (e : Ev) {e1 : Ev} (hI : I e = .ok (rangeD 0 m) e1) (h : P 0 e1)
    (hs : ∀ k e, k < m → P k e → ∃ e2, forS g b (.int (k : Int)) e = some e2 ∧ P (k + 1) e2) : ∃ e', forM g b I e = .ok .nx e' ∧ P m e' := by
  obtain ⟨e', h1, h2⟩ := forL_inv (g := g) (b := b) P (rangeD 0 m) 0 e1 h fun j d e hj hp => by
    obtain ⟨rfl, hl⟩ := range_get hj
    rw [Nat.zero_add] at hp ⊢
    obtain ⟨e2, q1, q2⟩ := hs j e hl hp
    obtain ⟨e3, q3, q4⟩ := forS_some q1
    exact ⟨e3, e2, q3, q4, q2⟩
  rw [range_len, Nat.zero_add] at h2
  exact ⟨e', by rw [forM_eq hI]; exact h1, h2⟩
theorem rng1_of {G : M (List Rv)} {e e' : Ev} {m : Nat} (h : m ≤ 1000000) (hG : G e = .ok [.fz (.int (m : Int))] e') : rng1M G e = .ok (rangeD 0 m) e' := by
  have h2 := inR_nat h
  have h3 : (m : Int).toNat = m := Int.toNat_natCast m
  generalize (m : Int) = i at *
  simp only [rng1M, M.bind, hG, viewAll, view, h2, if_true, h3]
end Sc

set_option Elab.async false
set_option linter.all false
set_option maxRecDepth 100000
namespace Hd
open PySem PySem.Spec PyProof.Rows L2
def topS (i : Nat) : Stmt := PySem.Challenge.pw_shapecourt_k80_books_written_and_read.main.body.getD i (.Pass ⟨0, 0, 0, 0⟩)
abbrev mkD (at_ : Str × Option Str) (x q : Str) (st : Stmt) : He.DefD := ⟨at_, x, q, defArgs st, defBody st, defScope st, [], []⟩
def d__wall : He.DefD := mkD ("_wall", none) "_wall" "_wall" (topS 0)
def d_is_word : He.DefD := mkD ("is_word", none) "is_word" "is_word" (topS 7)
def d_is_tuple : He.DefD := mkD ("is_tuple", none) "is_tuple" "is_tuple" (topS 13)
def d_is_make : He.DefD := mkD ("is_make", none) "is_make" "is_make" (topS 14)
def d_is_kind : He.DefD := mkD ("is_kind", none) "is_kind" "is_kind" (topS 15)
def d_is_book : He.DefD := mkD ("is_book", none) "is_book" "is_book" (topS 16)
def d_in_brackets : He.DefD := mkD ("in_brackets", none) "in_brackets" "in_brackets" (topS 19)
def d_written_book : He.DefD := mkD ("written_book", none) "written_book" "written_book" (topS 20)
def d_Strip___init__ : He.DefD := mkD ("Strip", some "__init__") "__init__" "Strip.__init__" (L2.inClass (topS 21) 0)
def d_Strip_is_through : He.DefD := mkD ("Strip", some "is_through") "is_through" "Strip.is_through" (L2.inClass (topS 21) 1)
def d_Strip_meets : He.DefD := mkD ("Strip", some "meets") "meets" "Strip.meets" (L2.inClass (topS 21) 2)
def d_Strip_passes : He.DefD := mkD ("Strip", some "passes") "passes" "Strip.passes" (L2.inClass (topS 21) 3)
def d_Strip_must_pass : He.DefD := mkD ("Strip", some "must_pass") "must_pass" "Strip.must_pass" (L2.inClass (topS 21) 4)
def d_Strip_stretch_of : He.DefD := mkD ("Strip", some "stretch_of") "stretch_of" "Strip.stretch_of" (L2.inClass (topS 21) 5)
def d_Strip_number_next : He.DefD := mkD ("Strip", some "number_next") "number_next" "Strip.number_next" (L2.inClass (topS 21) 6)
def d_Strip_ends_well : He.DefD := mkD ("Strip", some "ends_well") "ends_well" "Strip.ends_well" (L2.inClass (topS 21) 7)
def d_words_read : He.DefD := mkD ("words_read", none) "words_read" "words_read" (topS 22)
def d_kind_read : He.DefD := mkD ("kind_read", none) "kind_read" "kind_read" (topS 23)
def d_strip_of : He.DefD := mkD ("strip_of", none) "strip_of" "strip_of" (topS 24)
def d_read_book : He.DefD := mkD ("read_book", none) "read_book" "read_book" (topS 25)
def d__law_cell : He.DefD := mkD ("_law_cell", none) "_law_cell" "_law_cell" (topS 27)
def d__law_dig : He.DefD := mkD ("_law_dig", none) "_law_dig" "_law_dig" (topS 28)
def d__law_next : He.DefD := mkD ("_law_next", none) "_law_next" "_law_next" (topS 29)
def d__law_words : He.DefD := mkD ("_law_words", none) "_law_words" "_law_words" (topS 30)
def d__law_volume : He.DefD := mkD ("_law_volume", none) "_law_volume" "_law_volume" (topS 31)
def d__law_alike : He.DefD := mkD ("_law_alike", none) "_law_alike" "_law_alike" (topS 32)
def d__law_bracketed : He.DefD := mkD ("_law_bracketed", none) "_law_bracketed" "_law_bracketed" (topS 33)
def d__law_book_text : He.DefD := mkD ("_law_book_text", none) "_law_book_text" "_law_book_text" (topS 34)
def d_law : He.DefD := mkD ("law", none) "law" "law" (topS 35)
def fn : List He.DefD := [d__wall, d_is_word, d_is_tuple, d_is_make, d_is_kind, d_is_book, d_in_brackets, d_written_book, d_Strip___init__, d_Strip_is_through, d_Strip_meets, d_Strip_passes, d_Strip_must_pass, d_Strip_stretch_of, d_Strip_number_next, d_Strip_ends_well, d_words_read, d_kind_read, d_strip_of, d_read_book, d__law_cell, d__law_dig, d__law_next, d__law_words, d__law_volume, d__law_alike, d__law_bracketed, d__law_book_text, d_law]
def fa : List He.Fa := [.free "all", .free "bool", .free "int", .free "isinstance", .free "len", .free "max", .free "min", .free "range", .free "set", .free "str", .free "tuple", .free "zip", .str "LETTERS_words" "abcdefghijklmnopqrstuvwxyz", .int "LONGEST" 8, .str "NUM" "num", .int "MOST_KINDS" 6, .int "MOST_MAKES" 6, .int "MOST_FIELDS" 4, .str "LETTERS_texts" "abcdefghijklmnopqrstuvwxyz", .glo "_wall", .glo "is_word", .glo "is_tuple", .glo "is_make", .glo "is_kind", .glo "is_book", .glo "in_brackets", .glo "written_book", .meth "Strip" "__init__", .meth "Strip" "is_through", .meth "Strip" "meets", .meth "Strip" "passes", .meth "Strip" "must_pass", .meth "Strip" "stretch_of", .meth "Strip" "number_next", .meth "Strip" "ends_well", .glo "words_read", .glo "kind_read", .glo "strip_of", .glo "read_book", .glo "_law_cell", .glo "_law_dig", .glo "_law_next", .glo "_law_words", .glo "_law_volume", .glo "_law_alike", .glo "_law_bracketed", .glo "_law_book_text", .glo "law", .glo "Strip", .cls "Strip", .mkr "Strip", .noat "Strip" "signs", .noat "Strip" "spot", .glo "CourtError", .exc "CourtError", .glo "NoText", .exc "NoText"]
def nms0 : List PySem.Str := ["_wall", "__name__", "CourtError", "NoText", "LETTERS_words", "LONGEST", "is_word", "NUM", "MOST_KINDS", "MOST_MAKES", "MOST_FIELDS", "is_tuple", "is_make", "is_kind", "is_book", "LETTERS_texts", "in_brackets", "written_book", "Strip", "words_read", "kind_read", "strip_of", "read_book", "_law_cell", "_law_dig", "_law_next", "_law_words", "_law_volume", "_law_alike", "_law_bracketed"]
def nms1 : List PySem.Str := ["_law_book_text"]
def nms : List PySem.Str := nms0 ++ nms1
abbrev R : PySem.W.OpenRow := PySem.W.OpenLaw.row PySem.Challenge.rw_shapecourt_k80_books_written_and_read
abbrev hk : PySem.W.Hook := He.hookD 4 fa fn
def ob (s : PySem.W.SharedT) : He.AlD := He.obsDG 4 fa fn (HandSHeadRun.getT s)
theorem ob_eq (s : PySem.W.SharedT) : ob s = hk.obs s.abs := He.obsDG_eq (HandSHeadRun.getT_eq s)
set_option maxHeartbeats 0 in
theorem run (w : World) : HandSHeadRun.RunEq R (PySem.W.view R.prog [35]) hk ob 3000 nms w := by
  intro os
  kernel_rfl
end Hd

set_option linter.all false
set_option autoImplicit false
set_option maxRecDepth 100000
set_option maxHeartbeats 400000
namespace Sc.Law
open PySem PySem.Spec PyProof.Rows L2 Sc
inductive Fn where
  | _wall | is_word | is_tuple | is_make | is_kind | is_book | in_brackets | written_book | Strip___init__ | Strip_is_through | Strip_meets | Strip_passes | Strip_must_pass | Strip_stretch_of | Strip_number_next | Strip_ends_well | words_read | kind_read | strip_of | read_book | _law_cell | _law_dig | _law_next | _law_words | _law_volume | _law_alike | _law_bracketed | _law_book_text | law
noncomputable def c_is_word_1 (T : Fn → Fun) : M Rv :=
    (lcM [1] (nameG 1) yesT (opM (inOF false) (nameM 1) (constM (.str "abcdefghijklmnopqrstuvwxyz"))) (iterM (nameM 0)))
noncomputable def b_is_word (T : Fn → Fun) : M Fl :=
    (seqM (ifS (orT (notT (testM (isiM "str" (nameM 0)))) (notT (testM (chainM leF leF (constM (.int 1)) (bltM lenF (consA (nameM 0) nilA)) (constM (.int 8)))))) (retM (constM (.bl false))) skipM)
    (retM (bltM allF (consA (c_is_word_1 T) nilA))))
noncomputable def b_is_tuple (T : Fn → Fun) : M Fl :=
    (retM (andM (isiM "tuple" (nameM 0)) (chainM leF leF (nameM 1) (bltM lenF (consA (nameM 0) nilA)) (nameM 2))))
noncomputable def b_is_make (T : Fn → Fun) : M Fl :=
    (retM (andM (callM [false, false, false] (T .is_tuple) (consA (nameM 0) (consA (constM (.int 2)) (consA (constM (.int 2)) nilA)))) (andM (callM [false] (T .is_word) (consA (opM ixF (nameM 0) (constM (.int 0))) nilA)) (callM [false, false, false] (T .is_tuple) (consA (opM ixF (nameM 0) (constM (.int 1))) (consA (constM (.int 0)) (consA (constM (.int 4)) nilA)))))))
noncomputable def c_is_kind_1 (T : Fn → Fun) : M Rv :=
    (lcM [1] (nameG 1) yesT (callM [false] (T .is_make) (consA (nameM 1) nilA)) (iterM (opM ixF (nameM 0) (constM (.int 1)))))
noncomputable def b_is_kind (T : Fn → Fun) : M Fl :=
    (seqM (ifS (orT (notT (testM (callM [false, false, false] (T .is_tuple) (consA (nameM 0) (consA (constM (.int 2)) (consA (constM (.int 2)) nilA)))))) (orT (notT (testM (callM [false] (T .is_word) (consA (opM ixF (nameM 0) (constM (.int 0))) nilA)))) (notT (testM (callM [false, false, false] (T .is_tuple) (consA (opM ixF (nameM 0) (constM (.int 1))) (consA (constM (.int 1)) (consA (constM (.int 6)) nilA)))))))) (retM (constM (.bl false))) skipM)
    (retM (bltM allF (consA (c_is_kind_1 T) nilA))))
noncomputable def c_is_book_1 (T : Fn → Fun) : M Rv :=
    (lcM [9] (nameG 9) yesT (callM [false] (T .is_kind) (consA (nameM 9) nilA)) (iterM (nameM 0)))
noncomputable def c_is_book_2 (T : Fn → Fun) : M Rv :=
    (lcM [6, 2] (tupGn 2 (consG (nameG 6) (consG (nameG 2) nilG))) yesT (nameM 6) (iterM (nameM 0)))
noncomputable def l_is_book_1 (T : Fn → Fun) : M Fl :=
    (forM (tupGn 2 (consG (nameG 6) (consG (nameG 7) nilG))) (seqM (exprM (mutM appendF 2 (consA (nameM 6) nilA)))
    (exprM (mutM extendF 3 (consA (nameM 7) nilA)))) (iterM (nameM 5)))
noncomputable def l_is_book_2 (T : Fn → Fun) : M Fl :=
    (forM (tupGn 2 (consG (nameG 4) (consG (nameG 5) nilG))) (l_is_book_1 T) (iterM (nameM 0)))
noncomputable def c_is_book_3 (T : Fn → Fun) : M Rv :=
    (lcM [8] (nameG 8) yesT (opM (inOF false) (nameM 8) (nameM 1)) (iterM (nameM 3)))
noncomputable def b_is_book (T : Fn → Fun) : M Fl :=
    (seqM (ifS (orT (notT (testM (callM [false, false, false] (T .is_tuple) (consA (nameM 0) (consA (constM (.int 1)) (consA (constM (.int 6)) nilA)))))) (notT (testM (bltM allF (consA (c_is_book_1 T) nilA))))) (retM (constM (.bl false))) skipM)
    (seqM (setM 1 (opM addF (lstM (consA (constM (.str "num")) nilA)) (c_is_book_2 T)))
    (seqM (setM 2 (lstM nilA))
    (seqM (setM 3 (lstM nilA))
    (seqM (l_is_book_2 T)
    (seqM (ifS (orT (testM (opM ltF (lenSetM (nameM 1)) (bltM lenF (consA (nameM 1) nilA)))) (testM (opM ltF (lenSetM (nameM 2)) (bltM lenF (consA (nameM 2) nilA))))) (retM (constM (.bl false))) skipM)
    (retM (bltM allF (consA (c_is_book_3 T) nilA)))))))))
noncomputable def b_in_brackets (T : Fn → Fun) : M Fl :=
    (seqM (ifS (testM (opM eqOF (bltM lenF (consA (nameM 1) nilA)) (constM (.int 0)))) (retM (nameM 0)) skipM)
    (retM (opM addF (opM addF (opM addF (nameM 0) (constM (.str "("))) (strMM joinF (constM (.str " ")) (consA (nameM 1) nilA))) (constM (.str ")")))))
noncomputable def c_written_book_1 (T : Fn → Fun) : M Rv :=
    (lcM [4, 5] (tupGn 2 (consG (nameG 4) (consG (nameG 5) nilG))) yesT (callM [false, false] (T .in_brackets) (consA (nameM 4) (consA (nameM 5) nilA))) (iterM (nameM 3)))
noncomputable def l_written_book_1 (T : Fn → Fun) : M Fl :=
    (forM (tupGn 2 (consG (nameG 2) (consG (nameG 3) nilG))) (exprM (mutM appendF 1 (consA (opM addF (opM addF (nameM 2) (constM (.str " = "))) (strMM joinF (constM (.str " | ")) (consA (c_written_book_1 T) nilA))) nilA))) (iterM (nameM 0)))
noncomputable def b_written_book (T : Fn → Fun) : M Fl :=
    (seqM (setM 1 (lstM nilA))
    (seqM (l_written_book_1 T)
    (retM (strMM joinF (constM (.str "; ")) (consA (nameM 1) nilA)))))
noncomputable def b_Strip___init__ (T : Fn → Fun) : M Fl :=
    (seqM (putFM "Strip" "signs" 0 (nameM 1))
    (putFM "Strip" "spot" 0 (constM (.int 0))))
noncomputable def b_Strip_is_through (T : Fn → Fun) : M Fl :=
    (retM (opM eqOF (fldM "Strip" "spot" (nameM 0)) (bltM lenF (consA (fldM "Strip" "signs" (nameM 0)) nilA))))
noncomputable def b_Strip_meets (T : Fn → Fun) : M Fl :=
    (retM (andM (notM (methM "Strip" "is_through" [] (T .Strip_is_through) (nameM 0) nilA)) (opM (inOF false) (opM ixF (fldM "Strip" "signs" (nameM 0)) (fldM "Strip" "spot" (nameM 0))) (nameM 1))))
noncomputable def b_Strip_passes (T : Fn → Fun) : M Fl :=
    (seqM (ifS (notT (testM (strMM startsF (fldM "Strip" "signs" (nameM 0)) (consA (nameM 1) (consA (fldM "Strip" "spot" (nameM 0)) nilA))))) (retM (constM (.bl false))) skipM)
    (seqM (putFM "Strip" "spot" 0 (opM addF (fldM "Strip" "spot" (nameM 0)) (bltM lenF (consA (nameM 1) nilA))))
    (retM (constM (.bl true)))))
noncomputable def b_Strip_must_pass (T : Fn → Fun) : M Fl :=
    (ifS (notT (testM (methM "Strip" "passes" [false] (T .Strip_passes) (nameM 0) (consA (nameM 1) nilA)))) (raiseM "NoText") skipM)
noncomputable def w_Strip_stretch_of_1 (T : Fn → Fun) : M Fl :=
    (whileM (testM (methM "Strip" "meets" [false] (T .Strip_meets) (nameM 0) (consA (nameM 1) nilA))) (putFM "Strip" "spot" 0 (opM addF (fldM "Strip" "spot" (nameM 0)) (constM (.int 1)))))
noncomputable def b_Strip_stretch_of (T : Fn → Fun) : M Fl :=
    (seqM (setM 2 (fldM "Strip" "spot" (nameM 0)))
    (seqM (w_Strip_stretch_of_1 T)
    (seqM (ifS (testM (opM eqOF (fldM "Strip" "spot" (nameM 0)) (nameM 2))) (raiseM "NoText") skipM)
    (retM (sliceM (fldM "Strip" "signs" (nameM 0)) (intM (nameM 2)) (intM (fldM "Strip" "spot" (nameM 0))))))))
noncomputable def b_Strip_number_next (T : Fn → Fun) : M Fl :=
    (exprM (callM [false] (T ._wall) (consA (constM (.int 0)) nilA)))
noncomputable def b_Strip_ends_well (T : Fn → Fun) : M Fl :=
    (ifS (notT (testM (methM "Strip" "is_through" [] (T .Strip_is_through) (nameM 0) nilA))) (raiseM "NoText") skipM)
noncomputable def w_words_read_1 (T : Fn → Fun) : M Fl :=
    (whileM (testM (methM "Strip" "passes" [false] (T .Strip_passes) (nameM 0) (consA (constM (.str " ")) nilA))) (exprM (mutM appendF 1 (consA (methM "Strip" "stretch_of" [false] (T .Strip_stretch_of) (nameM 0) (consA (constM (.str "abcdefghijklmnopqrstuvwxyz")) nilA)) nilA))))
noncomputable def b_words_read (T : Fn → Fun) : M Fl :=
    (seqM (setM 1 (lstM nilA))
    (seqM (ifS (testM (methM "Strip" "passes" [false] (T .Strip_passes) (nameM 0) (consA (constM (.str "(")) nilA))) (seqM (exprM (mutM appendF 1 (consA (methM "Strip" "stretch_of" [false] (T .Strip_stretch_of) (nameM 0) (consA (constM (.str "abcdefghijklmnopqrstuvwxyz")) nilA)) nilA)))
    (seqM (w_words_read_1 T)
    (exprM (methM "Strip" "must_pass" [false] (T .Strip_must_pass) (nameM 0) (consA (constM (.str ")")) nilA))))) skipM)
    (retM (bltM tupleF (consA (nameM 1) nilA)))))
noncomputable def w_kind_read_1 (T : Fn → Fun) : M Fl :=
    (whileM (testM (methM "Strip" "passes" [false] (T .Strip_passes) (nameM 0) (consA (constM (.str " | ")) nilA))) (seqM (setM 3 (methM "Strip" "stretch_of" [false] (T .Strip_stretch_of) (nameM 0) (consA (constM (.str "abcdefghijklmnopqrstuvwxyz")) nilA)))
    (exprM (mutM appendF 2 (consA (tupM (consA (nameM 3) (consA (callM [true] (T .words_read) (consA (nameM 0) nilA)) nilA))) nilA)))))
noncomputable def b_kind_read (T : Fn → Fun) : M Fl :=
    (seqM (setM 1 (methM "Strip" "stretch_of" [false] (T .Strip_stretch_of) (nameM 0) (consA (constM (.str "abcdefghijklmnopqrstuvwxyz")) nilA)))
    (seqM (exprM (methM "Strip" "must_pass" [false] (T .Strip_must_pass) (nameM 0) (consA (constM (.str " = ")) nilA)))
    (seqM (setM 2 (lstM (consA (tupM (consA (methM "Strip" "stretch_of" [false] (T .Strip_stretch_of) (nameM 0) (consA (constM (.str "abcdefghijklmnopqrstuvwxyz")) nilA)) (consA (callM [true] (T .words_read) (consA (nameM 0) nilA)) nilA))) nilA)))
    (seqM (w_kind_read_1 T)
    (retM (tupM (consA (nameM 1) (consA (bltM tupleF (consA (nameM 2) nilA)) nilA))))))))
noncomputable def b_strip_of (T : Fn → Fun) : M Fl :=
    (seqM (ifS (notT (testM (isiM "str" (nameM 0)))) (raiseM "NoText") skipM)
    (retM (newM "Strip" [false] (T .Strip___init__) (consA (nameM 0) nilA))))
noncomputable def w_read_book_1 (T : Fn → Fun) : M Fl :=
    (whileM (testM (methM "Strip" "passes" [false] (T .Strip_passes) (nameM 1) (consA (constM (.str "; ")) nilA))) (exprM (mutM appendF 2 (consA (callM [true] (T .kind_read) (consA (nameM 1) nilA)) nilA))))
noncomputable def b_read_book (T : Fn → Fun) : M Fl :=
    (seqM (setM 1 (callM [false] (T .strip_of) (consA (nameM 0) nilA)))
    (seqM (setM 2 (lstM (consA (callM [true] (T .kind_read) (consA (nameM 1) nilA)) nilA)))
    (seqM (w_read_book_1 T)
    (seqM (exprM (methM "Strip" "ends_well" [] (T .Strip_ends_well) (nameM 1) nilA))
    (seqM (setM 3 (bltM tupleF (consA (nameM 2) nilA)))
    (seqM (ifS (notT (testM (callM [false] (T .is_book) (consA (nameM 3) nilA)))) (raiseM "NoText") skipM)
    (retM (nameM 3))))))))
noncomputable def b__law_cell (T : Fn → Fun) : M Fl :=
    (seqM (ifS (testM (opM ltF (nameM 1) (bltM lenF (consA (nameM 0) nilA)))) (retM (opM ixF (nameM 0) (nameM 1))) skipM)
    (retM (opM addF (opM mulF (opM mulF (constM (.int 7919)) (nameM 1)) (nameM 1)) (opM mulF (constM (.int 17)) (nameM 1)))))
noncomputable def b__law_dig (T : Fn → Fun) : M Fl :=
    (retM (lstM (consA (bltM maxF (consA (constM (.int 0)) (consA (opM subF (nameM 0) (opM powF (constM (.int 10)) (constM (.int 18)))) nilA))) (consA (opM modF (nameM 0) (opM powF (constM (.int 10)) (constM (.int 18)))) (consA (constM (.int 0)) nilA)))))
noncomputable def b__law_next (T : Fn → Fun) : M Fl :=
    (seqM (ifS (testM (opM gtF (opM ixF (nameM 0) (constM (.int 0))) (constM (.int 0)))) (seqM (setM 4 (opM modF (opM ixF (nameM 0) (constM (.int 0))) (nameM 1)))
    (seqM (putLM 0 (opM fdivF (opM ixF (nameM 0) (constM (.int 0))) (nameM 1)) (constM (.int 0)))
    (retM (nameM 4)))) skipM)
    (seqM (putLM 0 (opM addF (opM ixF (nameM 0) (constM (.int 2))) (constM (.int 1))) (constM (.int 2)))
    (seqM (setM 2 (opM modF (opM addF (opM ixF (nameM 0) (constM (.int 1))) (opM mulF (constM (.int 7919)) (opM ixF (nameM 0) (constM (.int 2))))) (constM (.int 1000000007))))
    (seqM (setM 3 (opM modF (opM mulF (opM addF (nameM 2) (constM (.int 11))) (opM addF (nameM 2) (constM (.int 48271)))) (constM (.int 998244353))))
    (retM (opM modF (opM fdivF (opM modF (opM mulF (nameM 3) (nameM 3)) (constM (.int 2147483647))) (constM (.int 8))) (nameM 1)))))))
noncomputable def c__law_words_1 (T : Fn → Fun) : M Rv :=
    (lcM [9] (nameG 9) yesT (opM ixF (nameM 2) (callM [true, false] (T ._law_next) (consA (nameM 0) (consA (constM (.int 26)) nilA)))) (rng1M (consA (callM [true, false] (T ._law_next) (consA (nameM 0) (consA (constM (.int 7)) nilA))) nilA)))
noncomputable def l__law_words_1 (T : Fn → Fun) : M Fl :=
    (forM (nameG 9) (seqM (setM 10 (opM modF (opM addF (nameM 5) (opM mulF (nameM 9) (nameM 6))) (constM (.int 676))))
    (seqM (setM 11 (opM addF (opM ixF (nameM 2) (opM fdivF (nameM 10) (constM (.int 26)))) (opM ixF (nameM 2) (opM modF (nameM 10) (constM (.int 26))))))
    (seqM (setM 12 (opM addF (opM addF (sliceM (nameM 3) (constM .non) (intM (nameM 4))) (nameM 11)) (sliceM (nameM 3) (intM (nameM 4)) (constM .non))))
    (exprM (mutM appendF 8 (consA (sliceM (nameM 12) (constM .non) (intM (opM subF (bltM lenF (consA (nameM 12) nilA)) (opM mulF (nameM 7) (bltM intF (consA (opM eqOF (opM modF (nameM 9) (constM (.int 3))) (constM (.int 1))) nilA)))))) nilA)))))) (rng1M (consA (nameM 1) nilA)))
noncomputable def b__law_words (T : Fn → Fun) : M Fl :=
    (seqM (setM 2 (constM (.str "abcdefghijklmnopqrstuvwxyz")))
    (seqM (setM 3 (strMM joinF (constM (.str "")) (consA (c__law_words_1 T) nilA)))
    (seqM (setM 4 (callM [true, false] (T ._law_next) (consA (nameM 0) (consA (opM addF (bltM lenF (consA (nameM 3) nilA)) (constM (.int 1))) nilA))))
    (seqM (setM 5 (callM [true, false] (T ._law_next) (consA (nameM 0) (consA (constM (.int 676)) nilA))))
    (seqM (setM 6 (opM ixF (lstM (consA (constM (.int 1)) (consA (constM (.int 5)) (consA (constM (.int 27)) (consA (constM (.int 101)) nilA))))) (callM [true, false] (T ._law_next) (consA (nameM 0) (consA (constM (.int 4)) nilA)))))
    (seqM (setM 7 (opM mulF (callM [true, false] (T ._law_next) (consA (nameM 0) (consA (constM (.int 2)) nilA))) (bltM intF (consA (opM ltF (nameM 4) (bltM lenF (consA (nameM 3) nilA))) nilA))))
    (seqM (setM 8 (lstM nilA))
    (seqM (l__law_words_1 T)
    (retM (nameM 8))))))))))
noncomputable def c__law_volume_1 (T : Fn → Fun) : M Rv :=
    (lcM [8] (nameG 8) yesT (opM ixF (lstM (consA (nameM 8) (consA (constM (.str "zzzzzzzz")) nilA))) (bltM intF (consA (opM eqOF (nameM 8) (constM (.str "num"))) nilA))) (iterM (callM [true, false] (T ._law_words) (consA (nameM 0) (consA (nameM 1) nilA)))))
noncomputable def c__law_volume_2 (T : Fn → Fun) : M Rv :=
    (lcM [10] (nameG 10) yesT (opM ixF (opM addF (nameM 2) (lstM (consA (constM (.str "num")) nilA))) (callM [true, false] (T ._law_next) (consA (nameM 0) (consA (opM addF (nameM 1) (constM (.int 1))) nilA)))) (rng1M (consA (callM [true, false] (T ._law_next) (consA (nameM 0) (consA (constM (.int 5)) nilA))) nilA)))
noncomputable def l__law_volume_1 (T : Fn → Fun) : M Fl :=
    (forM (nameG 7) (seqM (setM 9 (c__law_volume_2 T))
    (exprM (mutM appendF 6 (consA (tupM (consA (mutM popAtF 3 (consA (constM (.int 0)) nilA)) (consA (bltM tupleF (consA (nameM 9) nilA)) nilA))) nilA)))) (rng1M (consA (opM ixF (lstM (consA (constM (.int 1)) (consA (constM (.int 2)) (consA (constM (.int 3)) (consA (constM (.int 2)) (consA (constM (.int 6)) (consA (constM (.int 1)) nilA))))))) (callM [true, false] (T ._law_next) (consA (nameM 0) (consA (constM (.int 6)) nilA)))) nilA)))
noncomputable def l__law_volume_2 (T : Fn → Fun) : M Fl :=
    (forM (nameG 5) (seqM (setM 6 (lstM nilA))
    (seqM (l__law_volume_1 T)
    (exprM (mutM appendF 4 (consA (tupM (consA (nameM 5) (consA (bltM tupleF (consA (nameM 6) nilA)) nilA))) nilA))))) (iterM (nameM 2)))
noncomputable def b__law_volume (T : Fn → Fun) : M Fl :=
    (seqM (setM 1 (opM addF (constM (.int 1)) (callM [true, false] (T ._law_next) (consA (nameM 0) (consA (constM (.int 6)) nilA)))))
    (seqM (setM 2 (c__law_volume_1 T))
    (seqM (setM 3 (callM [true, false] (T ._law_words) (consA (nameM 0) (consA (constM (.int 36)) nilA))))
    (seqM (setM 4 (lstM nilA))
    (seqM (l__law_volume_2 T)
    (retM (bltM tupleF (consA (nameM 4) nilA))))))))
noncomputable def c__law_alike_1 (T : Fn → Fun) : M Rv :=
    (lcM [2, 3] (tupGn 2 (consG (nameG 2) (consG (nameG 3) nilG))) yesT (callM [false, false] (T ._law_alike) (consA (nameM 2) (consA (nameM 3) nilA))) (zipM (consA (nameM 0) (consA (nameM 1) nilA))))
noncomputable def b__law_alike (T : Fn → Fun) : M Fl :=
    (seqM (ifS (testM (isiM "tuple" (nameM 1))) (seqM (ifS (orT (notT (testM (isiM "tuple" (nameM 0)))) (testM (opM neOF (bltM lenF (consA (nameM 0) nilA)) (bltM lenF (consA (nameM 1) nilA))))) (retM (constM (.bl false))) skipM)
    (retM (bltM allF (consA (c__law_alike_1 T) nilA)))) skipM)
    (seqM (ifS (testM (isiM "int" (nameM 1))) (retM (andM (isiM "int" (nameM 0)) (andM (notM (isiM "bool" (nameM 0))) (opM eqOF (nameM 0) (nameM 1))))) skipM)
    (seqM (ifS (testM (isiM "str" (nameM 1))) (retM (andM (isiM "str" (nameM 0)) (opM eqOF (nameM 0) (nameM 1)))) skipM)
    (retM (andM (opM isNF (nameM 0) (constM .non)) (opM isNF (nameM 1) (constM .non)))))))
noncomputable def b__law_bracketed (T : Fn → Fun) : M Fl :=
    (seqM (ifS (testM (opM eqOF (bltM lenF (consA (nameM 1) nilA)) (constM (.int 0)))) (retM (nameM 0)) skipM)
    (retM (opM addF (opM addF (opM addF (nameM 0) (constM (.str "("))) (strMM joinF (constM (.str " ")) (consA (nameM 1) nilA))) (constM (.str ")")))))
noncomputable def c__law_book_text_1 (T : Fn → Fun) : M Rv :=
    (lcM [4] (nameG 4) yesT (callM [false, false] (T ._law_bracketed) (consA (opM ixF (nameM 4) (constM (.int 0))) (consA (opM ixF (nameM 4) (constM (.int 1))) nilA))) (iterM (nameM 3)))
noncomputable def l__law_book_text_1 (T : Fn → Fun) : M Fl :=
    (forM (tupGn 2 (consG (nameG 2) (consG (nameG 3) nilG))) (exprM (mutM appendF 1 (consA (opM addF (opM addF (nameM 2) (constM (.str " = "))) (strMM joinF (constM (.str " | ")) (consA (c__law_book_text_1 T) nilA))) nilA))) (iterM (nameM 0)))
noncomputable def b__law_book_text (T : Fn → Fun) : M Fl :=
    (seqM (setM 1 (lstM nilA))
    (seqM (l__law_book_text_1 T)
    (retM (strMM joinF (constM (.str "; ")) (consA (nameM 1) nilA)))))
noncomputable def l_law_1 (T : Fn → Fun) : M Fl :=
    (forM (nameG 4) (ifS (notT (testM (callM [false, false] (T ._law_alike) (consA (callM [false] (T .read_book) (consA (nameM 3) nilA)) (consA (nameM 2) nilA))))) (retM (constM (.bl false))) skipM) (rng1M (consA (constM (.int 2)) nilA)))
noncomputable def l_law_2 (T : Fn → Fun) : M Fl :=
    (forM (nameG 1) (seqM (setM 2 (callM [true] (T ._law_volume) (consA (callM [false] (T ._law_dig) (consA (callM [false, false] (T ._law_cell) (consA (nameM 0) (consA (nameM 1) nilA))) nilA)) nilA)))
    (seqM (setM 3 (callM [false] (T ._law_book_text) (consA (nameM 2) nilA)))
    (seqM (ifS (notT (testM (callM [false, false] (T ._law_alike) (consA (callM [false] (T .written_book) (consA (nameM 2) nilA)) (consA (nameM 3) nilA))))) (retM (constM (.bl false))) skipM)
    (l_law_1 T)))) (rng1M (consA (bltM maxF (consA (constM (.int 3)) (consA (bltM minF (consA (constM (.int 63)) (consA (bltM lenF (consA (nameM 0) nilA)) nilA))) nilA))) nilA)))
noncomputable def b_law (T : Fn → Fun) : M Fl :=
    (seqM (l_law_2 T)
    (retM (constM (.bl true))))
noncomputable def T : Nat → Fn → Fun
  | 0, _ => fun _ => .stuck
  | _ + 1, ._wall => fun _ => .stuck
  | n + 1, .is_word => fnRun 2 (b_is_word (T n))
  | n + 1, .is_tuple => fnRun 3 (b_is_tuple (T n))
  | n + 1, .is_make => fnRun 1 (b_is_make (T n))
  | n + 1, .is_kind => fnRun 2 (b_is_kind (T n))
  | n + 1, .is_book => fnRun 10 (b_is_book (T n))
  | n + 1, .in_brackets => fnRun 2 (b_in_brackets (T n))
  | n + 1, .written_book => fnRun 6 (b_written_book (T n))
  | n + 1, .Strip___init__ => fnRun 2 (b_Strip___init__ (T n))
  | n + 1, .Strip_is_through => fnRun 1 (b_Strip_is_through (T n))
  | n + 1, .Strip_meets => fnRun 2 (b_Strip_meets (T n))
  | n + 1, .Strip_passes => fnRun 2 (b_Strip_passes (T n))
  | n + 1, .Strip_must_pass => fnRun 2 (b_Strip_must_pass (T n))
  | n + 1, .Strip_stretch_of => fnRun 3 (b_Strip_stretch_of (T n))
  | n + 1, .Strip_number_next => fnRun 1 (b_Strip_number_next (T n))
  | n + 1, .Strip_ends_well => fnRun 1 (b_Strip_ends_well (T n))
  | n + 1, .words_read => fnRun 2 (b_words_read (T n))
  | n + 1, .kind_read => fnRun 4 (b_kind_read (T n))
  | n + 1, .strip_of => fnRun 1 (b_strip_of (T n))
  | n + 1, .read_book => fnRun 4 (b_read_book (T n))
  | n + 1, ._law_cell => fnRun 2 (b__law_cell (T n))
  | n + 1, ._law_dig => fnRun 1 (b__law_dig (T n))
  | n + 1, ._law_next => fnRun 5 (b__law_next (T n))
  | n + 1, ._law_words => fnRun 13 (b__law_words (T n))
  | n + 1, ._law_volume => fnRun 11 (b__law_volume (T n))
  | n + 1, ._law_alike => fnRun 4 (b__law_alike (T n))
  | n + 1, ._law_bracketed => fnRun 2 (b__law_bracketed (T n))
  | n + 1, ._law_book_text => fnRun 5 (b__law_book_text (T n))
  | n + 1, .law => fnRun 5 (b_law (T n))
end Sc.Law

set_option linter.all false
set_option autoImplicit false
set_option maxRecDepth 100000
set_option maxHeartbeats 400000
namespace Sc.Law
open PySem PySem.Spec PyProof.Rows L2 Sc Hd
structure Tx (K : PySem.W.Frag) (mg : Str → Option Value) : Prop where
  b_all : mg "all" = none
  b_bool : mg "bool" = none
  b_int : mg "int" = none
  b_isinstance : mg "isinstance" = none
  b_len : mg "len" = none
  b_max : mg "max" = none
  b_min : mg "min" = none
  b_range : mg "range" = none
  b_set : mg "set" = none
  b_str : mg "str" = none
  b_tuple : mg "tuple" = none
  b_zip : mg "zip" = none
  c_LETTERS_words : ∃ t, mg "LETTERS_words" = some (.str "abcdefghijklmnopqrstuvwxyz" t)
  c_LONGEST : ∃ t, mg "LONGEST" = some (.int 8 t)
  c_NUM : ∃ t, mg "NUM" = some (.str "num" t)
  c_MOST_KINDS : ∃ t, mg "MOST_KINDS" = some (.int 6 t)
  c_MOST_MAKES : ∃ t, mg "MOST_MAKES" = some (.int 6 t)
  c_MOST_FIELDS : ∃ t, mg "MOST_FIELDS" = some (.int 4 t)
  c_LETTERS_texts : ∃ t, mg "LETTERS_texts" = some (.str "abcdefghijklmnopqrstuvwxyz" t)
  g__wall : mg "_wall" = some (.ref (He.ga K "_wall"))
  g_is_word : mg "is_word" = some (.ref (He.ga K "is_word"))
  g_is_tuple : mg "is_tuple" = some (.ref (He.ga K "is_tuple"))
  g_is_make : mg "is_make" = some (.ref (He.ga K "is_make"))
  g_is_kind : mg "is_kind" = some (.ref (He.ga K "is_kind"))
  g_is_book : mg "is_book" = some (.ref (He.ga K "is_book"))
  g_in_brackets : mg "in_brackets" = some (.ref (He.ga K "in_brackets"))
  g_written_book : mg "written_book" = some (.ref (He.ga K "written_book"))
  me_Strip___init__ : Meth K (He.ga K "Strip") "__init__" (He.ma K (He.ga K "Strip") "__init__")
  me_Strip_is_through : Meth K (He.ga K "Strip") "is_through" (He.ma K (He.ga K "Strip") "is_through")
  me_Strip_meets : Meth K (He.ga K "Strip") "meets" (He.ma K (He.ga K "Strip") "meets")
  me_Strip_passes : Meth K (He.ga K "Strip") "passes" (He.ma K (He.ga K "Strip") "passes")
  me_Strip_must_pass : Meth K (He.ga K "Strip") "must_pass" (He.ma K (He.ga K "Strip") "must_pass")
  me_Strip_stretch_of : Meth K (He.ga K "Strip") "stretch_of" (He.ma K (He.ga K "Strip") "stretch_of")
  me_Strip_number_next : Meth K (He.ga K "Strip") "number_next" (He.ma K (He.ga K "Strip") "number_next")
  me_Strip_ends_well : Meth K (He.ga K "Strip") "ends_well" (He.ma K (He.ga K "Strip") "ends_well")
  g_words_read : mg "words_read" = some (.ref (He.ga K "words_read"))
  g_kind_read : mg "kind_read" = some (.ref (He.ga K "kind_read"))
  g_strip_of : mg "strip_of" = some (.ref (He.ga K "strip_of"))
  g_read_book : mg "read_book" = some (.ref (He.ga K "read_book"))
  g__law_cell : mg "_law_cell" = some (.ref (He.ga K "_law_cell"))
  g__law_dig : mg "_law_dig" = some (.ref (He.ga K "_law_dig"))
  g__law_next : mg "_law_next" = some (.ref (He.ga K "_law_next"))
  g__law_words : mg "_law_words" = some (.ref (He.ga K "_law_words"))
  g__law_volume : mg "_law_volume" = some (.ref (He.ga K "_law_volume"))
  g__law_alike : mg "_law_alike" = some (.ref (He.ga K "_law_alike"))
  g__law_bracketed : mg "_law_bracketed" = some (.ref (He.ga K "_law_bracketed"))
  g__law_book_text : mg "_law_book_text" = some (.ref (He.ga K "_law_book_text"))
  g_law : mg "law" = some (.ref (He.ga K "law"))
  g_Strip : mg "Strip" = some (.ref (He.ga K "Strip"))
  cls_Strip : Cls K (He.ga K "Strip")
  mk_Strip : Mk K (He.ga K "Strip") (He.ma K (He.ga K "Strip") "__init__")
  na_Strip_signs : NoAttr K (He.ga K "Strip") "signs"
  na_Strip_spot : NoAttr K (He.ga K "Strip") "spot"
  g_CourtError : mg "CourtError" = some (.ref (He.ga K "CourtError"))
  x_CourtError : PySem.W.excIn K (He.ga K "CourtError") He.veBase "ValueError.__new__" = true
  xk_CourtError : PySem.W.keepIn K (.ref (He.ga K "CourtError")) = true
  xs_CourtError : PySem.W.subIn K (.ref (He.ga K "CourtError")) (.type "BaseException") = some true
  xt_CourtError : PySem.W.typeIn K (.ref (He.ga K "CourtError")) = some (.type "type")
  g_NoText : mg "NoText" = some (.ref (He.ga K "NoText"))
  x_NoText : PySem.W.excIn K (He.ga K "NoText") He.veBase "ValueError.__new__" = true
  xk_NoText : PySem.W.keepIn K (.ref (He.ga K "NoText")) = true
  xs_NoText : PySem.W.subIn K (.ref (He.ga K "NoText")) (.type "BaseException") = some true
  xt_NoText : PySem.W.typeIn K (.ref (He.ga K "NoText")) = some (.type "type")
structure Lv (P : Program) (w : World) (K : PySem.W.Frag) (mg : Str → Option Value) (base : Heap) (k n : Nat) : Prop where
  d__wall : Def P w K mg base k (He.ga K "_wall") 1 (T n ._wall)
  d_is_word : Def P w K mg base k (He.ga K "is_word") 1 (T n .is_word)
  d_is_tuple : Def P w K mg base k (He.ga K "is_tuple") 3 (T n .is_tuple)
  d_is_make : Def P w K mg base k (He.ga K "is_make") 1 (T n .is_make)
  d_is_kind : Def P w K mg base k (He.ga K "is_kind") 1 (T n .is_kind)
  d_is_book : Def P w K mg base k (He.ga K "is_book") 1 (T n .is_book)
  d_in_brackets : Def P w K mg base k (He.ga K "in_brackets") 2 (T n .in_brackets)
  d_written_book : Def P w K mg base k (He.ga K "written_book") 1 (T n .written_book)
  d_Strip___init__ : Def P w K mg base k (He.ma K (He.ga K "Strip") "__init__") 2 (T n .Strip___init__)
  d_Strip_is_through : Def P w K mg base k (He.ma K (He.ga K "Strip") "is_through") 1 (T n .Strip_is_through)
  d_Strip_meets : Def P w K mg base k (He.ma K (He.ga K "Strip") "meets") 2 (T n .Strip_meets)
  d_Strip_passes : Def P w K mg base k (He.ma K (He.ga K "Strip") "passes") 2 (T n .Strip_passes)
  d_Strip_must_pass : Def P w K mg base k (He.ma K (He.ga K "Strip") "must_pass") 2 (T n .Strip_must_pass)
  d_Strip_stretch_of : Def P w K mg base k (He.ma K (He.ga K "Strip") "stretch_of") 2 (T n .Strip_stretch_of)
  d_Strip_number_next : Def P w K mg base k (He.ma K (He.ga K "Strip") "number_next") 1 (T n .Strip_number_next)
  d_Strip_ends_well : Def P w K mg base k (He.ma K (He.ga K "Strip") "ends_well") 1 (T n .Strip_ends_well)
  d_words_read : Def P w K mg base k (He.ga K "words_read") 1 (T n .words_read)
  d_kind_read : Def P w K mg base k (He.ga K "kind_read") 1 (T n .kind_read)
  d_strip_of : Def P w K mg base k (He.ga K "strip_of") 1 (T n .strip_of)
  d_read_book : Def P w K mg base k (He.ga K "read_book") 1 (T n .read_book)
  d__law_cell : Def P w K mg base k (He.ga K "_law_cell") 2 (T n ._law_cell)
  d__law_dig : Def P w K mg base k (He.ga K "_law_dig") 1 (T n ._law_dig)
  d__law_next : Def P w K mg base k (He.ga K "_law_next") 2 (T n ._law_next)
  d__law_words : Def P w K mg base k (He.ga K "_law_words") 2 (T n ._law_words)
  d__law_volume : Def P w K mg base k (He.ga K "_law_volume") 1 (T n ._law_volume)
  d__law_alike : Def P w K mg base k (He.ga K "_law_alike") 2 (T n ._law_alike)
  d__law_bracketed : Def P w K mg base k (He.ga K "_law_bracketed") 2 (T n ._law_bracketed)
  d__law_book_text : Def P w K mg base k (He.ga K "_law_book_text") 1 (T n ._law_book_text)
  d_law : Def P w K mg base k (He.ga K "law") 1 (T n .law)
def N__wall : List Str := ["k"]
def P__wall : List Str := ["k"]
theorem sc__wall : FnScope N__wall P__wall (defScope (topS 0)) := ⟨rfl, rfl, rfl, by decide +kernel, rfl, by decide +kernel, by decide +kernel⟩
def N_is_word : List Str := ["thing", "sign"]
def P_is_word : List Str := ["thing"]
theorem sc_is_word : FnScope N_is_word P_is_word (defScope (topS 7)) := ⟨rfl, rfl, rfl, by decide +kernel, rfl, by decide +kernel, by decide +kernel⟩
def N_is_tuple : List Str := ["thing", "least", "most"]
def P_is_tuple : List Str := ["thing", "least", "most"]
theorem sc_is_tuple : FnScope N_is_tuple P_is_tuple (defScope (topS 13)) := ⟨rfl, rfl, rfl, by decide +kernel, rfl, by decide +kernel, by decide +kernel⟩
def N_is_make : List Str := ["thing"]
def P_is_make : List Str := ["thing"]
theorem sc_is_make : FnScope N_is_make P_is_make (defScope (topS 14)) := ⟨rfl, rfl, rfl, by decide +kernel, rfl, by decide +kernel, by decide +kernel⟩
def N_is_kind : List Str := ["thing", "make"]
def P_is_kind : List Str := ["thing"]
theorem sc_is_kind : FnScope N_is_kind P_is_kind (defScope (topS 15)) := ⟨rfl, rfl, rfl, by decide +kernel, rfl, by decide +kernel, by decide +kernel⟩
def N_is_book : List Str := ["thing", "names", "makes", "fields", "kind", "some", "name", "parts", "field", "row"]
def P_is_book : List Str := ["thing"]
theorem sc_is_book : FnScope N_is_book P_is_book (defScope (topS 16)) := ⟨rfl, rfl, rfl, by decide +kernel, rfl, by decide +kernel, by decide +kernel⟩
def N_in_brackets : List Str := ["name", "parts"]
def P_in_brackets : List Str := ["name", "parts"]
theorem sc_in_brackets : FnScope N_in_brackets P_in_brackets (defScope (topS 19)) := ⟨rfl, rfl, rfl, by decide +kernel, rfl, by decide +kernel, by decide +kernel⟩
def N_written_book : List Str := ["book", "kinds", "name", "makes", "make", "fields"]
def P_written_book : List Str := ["book"]
theorem sc_written_book : FnScope N_written_book P_written_book (defScope (topS 20)) := ⟨rfl, rfl, rfl, by decide +kernel, rfl, by decide +kernel, by decide +kernel⟩
def N_Strip___init__ : List Str := ["self", "text"]
def P_Strip___init__ : List Str := ["self", "text"]
theorem sc_Strip___init__ : FnScope N_Strip___init__ P_Strip___init__ (defScope (L2.inClass (topS 21) 0)) := ⟨rfl, rfl, rfl, by decide +kernel, rfl, by decide +kernel, by decide +kernel⟩
def N_Strip_is_through : List Str := ["self"]
def P_Strip_is_through : List Str := ["self"]
theorem sc_Strip_is_through : FnScope N_Strip_is_through P_Strip_is_through (defScope (L2.inClass (topS 21) 1)) := ⟨rfl, rfl, rfl, by decide +kernel, rfl, by decide +kernel, by decide +kernel⟩
def N_Strip_meets : List Str := ["self", "some"]
def P_Strip_meets : List Str := ["self", "some"]
theorem sc_Strip_meets : FnScope N_Strip_meets P_Strip_meets (defScope (L2.inClass (topS 21) 2)) := ⟨rfl, rfl, rfl, by decide +kernel, rfl, by decide +kernel, by decide +kernel⟩
def N_Strip_passes : List Str := ["self", "word"]
def P_Strip_passes : List Str := ["self", "word"]
theorem sc_Strip_passes : FnScope N_Strip_passes P_Strip_passes (defScope (L2.inClass (topS 21) 3)) := ⟨rfl, rfl, rfl, by decide +kernel, rfl, by decide +kernel, by decide +kernel⟩
def N_Strip_must_pass : List Str := ["self", "word"]
def P_Strip_must_pass : List Str := ["self", "word"]
theorem sc_Strip_must_pass : FnScope N_Strip_must_pass P_Strip_must_pass (defScope (L2.inClass (topS 21) 4)) := ⟨rfl, rfl, rfl, by decide +kernel, rfl, by decide +kernel, by decide +kernel⟩
def N_Strip_stretch_of : List Str := ["self", "some", "start"]
def P_Strip_stretch_of : List Str := ["self", "some"]
theorem sc_Strip_stretch_of : FnScope N_Strip_stretch_of P_Strip_stretch_of (defScope (L2.inClass (topS 21) 5)) := ⟨rfl, rfl, rfl, by decide +kernel, rfl, by decide +kernel, by decide +kernel⟩
def N_Strip_number_next : List Str := ["self"]
def P_Strip_number_next : List Str := ["self"]
theorem sc_Strip_number_next : FnScope N_Strip_number_next P_Strip_number_next (defScope (L2.inClass (topS 21) 6)) := ⟨rfl, rfl, rfl, by decide +kernel, rfl, by decide +kernel, by decide +kernel⟩
def N_Strip_ends_well : List Str := ["self"]
def P_Strip_ends_well : List Str := ["self"]
theorem sc_Strip_ends_well : FnScope N_Strip_ends_well P_Strip_ends_well (defScope (L2.inClass (topS 21) 7)) := ⟨rfl, rfl, rfl, by decide +kernel, rfl, by decide +kernel, by decide +kernel⟩
def N_words_read : List Str := ["strip", "words"]
def P_words_read : List Str := ["strip"]
theorem sc_words_read : FnScope N_words_read P_words_read (defScope (topS 22)) := ⟨rfl, rfl, rfl, by decide +kernel, rfl, by decide +kernel, by decide +kernel⟩
def N_kind_read : List Str := ["strip", "name", "makes", "make"]
def P_kind_read : List Str := ["strip"]
theorem sc_kind_read : FnScope N_kind_read P_kind_read (defScope (topS 23)) := ⟨rfl, rfl, rfl, by decide +kernel, rfl, by decide +kernel, by decide +kernel⟩
def N_strip_of : List Str := ["thing"]
def P_strip_of : List Str := ["thing"]
theorem sc_strip_of : FnScope N_strip_of P_strip_of (defScope (topS 24)) := ⟨rfl, rfl, rfl, by decide +kernel, rfl, by decide +kernel, by decide +kernel⟩
def N_read_book : List Str := ["thing", "strip", "kinds", "book"]
def P_read_book : List Str := ["thing"]
theorem sc_read_book : FnScope N_read_book P_read_book (defScope (topS 25)) := ⟨rfl, rfl, rfl, by decide +kernel, rfl, by decide +kernel, by decide +kernel⟩
def N__law_cell : List Str := ["script", "k"]
def P__law_cell : List Str := ["script", "k"]
theorem sc__law_cell : FnScope N__law_cell P__law_cell (defScope (topS 27)) := ⟨rfl, rfl, rfl, by decide +kernel, rfl, by decide +kernel, by decide +kernel⟩
def N__law_dig : List Str := ["cell"]
def P__law_dig : List Str := ["cell"]
theorem sc__law_dig : FnScope N__law_dig P__law_dig (defScope (topS 28)) := ⟨rfl, rfl, rfl, by decide +kernel, rfl, by decide +kernel, by decide +kernel⟩
def N__law_next : List Str := ["pool", "base", "near", "stir", "digit"]
def P__law_next : List Str := ["pool", "base"]
theorem sc__law_next : FnScope N__law_next P__law_next (defScope (topS 29)) := ⟨rfl, rfl, rfl, by decide +kernel, rfl, by decide +kernel, by decide +kernel⟩
def N__law_words : List Str := ["pool", "many", "letters", "base", "at", "first", "step", "cut", "names", "k", "number", "pair", "name"]
def P__law_words : List Str := ["pool", "many"]
theorem sc__law_words : FnScope N__law_words P__law_words (defScope (topS 30)) := ⟨rfl, rfl, rfl, by decide +kernel, rfl, by decide +kernel, by decide +kernel⟩
def N__law_volume : List Str := ["pool", "many", "kinds", "names", "book", "kind", "some", "k", "name", "fields", "at"]
def P__law_volume : List Str := ["pool"]
theorem sc__law_volume : FnScope N__law_volume P__law_volume (defScope (topS 31)) := ⟨rfl, rfl, rfl, by decide +kernel, rfl, by decide +kernel, by decide +kernel⟩
def N__law_alike : List Str := ["found", "due", "one", "other"]
def P__law_alike : List Str := ["found", "due"]
theorem sc__law_alike : FnScope N__law_alike P__law_alike (defScope (topS 32)) := ⟨rfl, rfl, rfl, by decide +kernel, rfl, by decide +kernel, by decide +kernel⟩
def N__law_bracketed : List Str := ["name", "parts"]
def P__law_bracketed : List Str := ["name", "parts"]
theorem sc__law_bracketed : FnScope N__law_bracketed P__law_bracketed (defScope (topS 33)) := ⟨rfl, rfl, rfl, by decide +kernel, rfl, by decide +kernel, by decide +kernel⟩
def N__law_book_text : List Str := ["book", "rows", "kind", "makes", "make"]
def P__law_book_text : List Str := ["book"]
theorem sc__law_book_text : FnScope N__law_book_text P__law_book_text (defScope (topS 34)) := ⟨rfl, rfl, rfl, by decide +kernel, rfl, by decide +kernel, by decide +kernel⟩
def N_law : List Str := ["script", "k", "book", "text", "turn"]
def P_law : List Str := ["script"]
theorem sc_law : FnScope N_law P_law (defScope (topS 35)) := ⟨rfl, rfl, rfl, by decide +kernel, rfl, by decide +kernel, by decide +kernel⟩
section
variable {P : Program} {w : World} {K : PySem.W.Frag} {mg : Str → Option Value} {base : Heap}
theorem o_is_word {n : Nat} {fd : FuncData} (t : Tx K mg) (L : Lv P w K mg base (2 * n) n) (F : FunD K "is_word" "is_word" (defArgs (topS 7)) (defBody (topS 7)) (defScope (topS 7)) [] [] (He.ga K "is_word") fd) : FnOk P w K mg base (L2.CX P w) (2 * (n + 1)) (He.ga K "is_word") fd P_is_word (spOf K 1 (T (n + 1) .is_word)) :=
  def_ok (k := 2 * n + 1) (N := N_is_word) (ps := P_is_word) F sc_is_word (by decide) fun cdv A outer s H E B W hr tk =>
    have nd := sc_is_word.nd
    have hr1 := hr.mono (Nat.le_succ (2 * n))
    (sb_cons (ss_if (st_pw (sw_or (st_not (st_val (se_isi (se_name (pv 0)) rfl t.b_isinstance bt_isinstance rfl t.b_str bt_str))) (sw_or1 (st_not (st_chain op_le opf_le op_le opf_le (se_const pe_int rfl) (se_blt call_lenAll bf_len rfl t.b_len bt_len (sa_cons (se_name (pv 0)) sa_nil)) (se_gint t.c_LONGEST rfl)))))) (sb_one (ss_ret (se_const pe_bl rfl))) sb_nil)
    (sb_one (ss_ret (se_blt (cr_all rfl) bf_all rfl t.b_all bt_all (sa_cons (se_lc rfl nd (si_iter (se_name (pv 0))) (blkOk_by (own := [("sign", 1)]) (N := N_is_word) (sc := defScope (topS 7)) (by decide +kernel)) rfl (by decide) (fun _ _ _ _ _ => (sg_name nd rfl (by first | exact .inl rfl | exact .inr rfl))) (fun _ _ _ _ _ => sts_nil) (fun _ _ _ _ _ => (se_cmp (op_inAll (hu65 hr)) opf_in (se_name (pv 1)) (se_gstr t.c_LETTERS_words rfl) rfl))) sa_nil)))))
theorem o_is_tuple {n : Nat} {fd : FuncData} (t : Tx K mg) (L : Lv P w K mg base (2 * n) n) (F : FunD K "is_tuple" "is_tuple" (defArgs (topS 13)) (defBody (topS 13)) (defScope (topS 13)) [] [] (He.ga K "is_tuple") fd) : FnOk P w K mg base (L2.CX P w) (2 * (n + 1)) (He.ga K "is_tuple") fd P_is_tuple (spOf K 3 (T (n + 1) .is_tuple)) :=
  def_ok (k := 2 * n + 1) (N := N_is_tuple) (ps := P_is_tuple) F sc_is_tuple (by decide) fun cdv A outer s H E B W hr tk =>
    have nd := sc_is_tuple.nd
    have hr1 := hr.mono (Nat.le_succ (2 * n))
    (sb_one (ss_ret (se_and (se_isi (se_name (pv 0)) rfl t.b_isinstance bt_isinstance rfl t.b_tuple bt_tuple) (se_one (se_chain op_le opf_le op_le opf_le (se_name (pv 1)) (se_blt call_lenAll bf_len rfl t.b_len bt_len (sa_cons (se_name (pv 0)) sa_nil)) (se_name (pv 2)))))))
theorem o_is_make {n : Nat} {fd : FuncData} (t : Tx K mg) (L : Lv P w K mg base (2 * n) n) (F : FunD K "is_make" "is_make" (defArgs (topS 14)) (defBody (topS 14)) (defScope (topS 14)) [] [] (He.ga K "is_make") fd) : FnOk P w K mg base (L2.CX P w) (2 * (n + 1)) (He.ga K "is_make") fd P_is_make (spOf K 1 (T (n + 1) .is_make)) :=
  def_ok (k := 2 * n + 1) (N := N_is_make) (ps := P_is_make) F sc_is_make (by decide) fun cdv A outer s H E B W hr tk =>
    have nd := sc_is_make.nd
    have hr1 := hr.mono (Nat.le_succ (2 * n))
    (sb_one (ss_ret (se_and (se_call (md := [false, false, false]) L.d_is_tuple t.g_is_tuple hr1 tk rfl (sa_cons (se_name (pv 0)) (sa_cons (se_const pe_int rfl) (sa_cons (se_const pe_int rfl) sa_nil)))) (se_and (se_call (md := [false]) L.d_is_word t.g_is_word hr1 tk rfl (sa_cons (se_ix (hu1 hr) (se_name (pv 0)) (se_const pe_int rfl)) sa_nil)) (se_one (se_call (md := [false, false, false]) L.d_is_tuple t.g_is_tuple hr1 tk rfl (sa_cons (se_ix (hu1 hr) (se_name (pv 0)) (se_const pe_int rfl)) (sa_cons (se_const pe_int rfl) (sa_cons (se_gint t.c_MOST_FIELDS rfl) sa_nil)))))))))
theorem o_is_kind {n : Nat} {fd : FuncData} (t : Tx K mg) (L : Lv P w K mg base (2 * n) n) (F : FunD K "is_kind" "is_kind" (defArgs (topS 15)) (defBody (topS 15)) (defScope (topS 15)) [] [] (He.ga K "is_kind") fd) : FnOk P w K mg base (L2.CX P w) (2 * (n + 1)) (He.ga K "is_kind") fd P_is_kind (spOf K 1 (T (n + 1) .is_kind)) :=
  def_ok (k := 2 * n + 1) (N := N_is_kind) (ps := P_is_kind) F sc_is_kind (by decide) fun cdv A outer s H E B W hr tk =>
    have nd := sc_is_kind.nd
    have hr1 := hr.mono (Nat.le_succ (2 * n))
    (sb_cons (ss_if (st_pw (sw_or (st_not (st_val (se_call (md := [false, false, false]) L.d_is_tuple t.g_is_tuple hr1 tk rfl (sa_cons (se_name (pv 0)) (sa_cons (se_const pe_int rfl) (sa_cons (se_const pe_int rfl) sa_nil)))))) (sw_or (st_not (st_val (se_call (md := [false]) L.d_is_word t.g_is_word hr1 tk rfl (sa_cons (se_ix (hu1 hr) (se_name (pv 0)) (se_const pe_int rfl)) sa_nil)))) (sw_or1 (st_not (st_val (se_call (md := [false, false, false]) L.d_is_tuple t.g_is_tuple hr1 tk rfl (sa_cons (se_ix (hu1 hr) (se_name (pv 0)) (se_const pe_int rfl)) (sa_cons (se_const pe_int rfl) (sa_cons (se_gint t.c_MOST_MAKES rfl) sa_nil)))))))))) (sb_one (ss_ret (se_const pe_bl rfl))) sb_nil)
    (sb_one (ss_ret (se_blt (cr_all rfl) bf_all rfl t.b_all bt_all (sa_cons (se_lc rfl nd (si_iter (se_ix (hu1 hr) (se_name (pv 0)) (se_const pe_int rfl))) (blkOk_by (own := [("make", 1)]) (N := N_is_kind) (sc := defScope (topS 15)) (by decide +kernel)) rfl (by decide) (fun _ _ _ _ _ => (sg_name nd rfl (by first | exact .inl rfl | exact .inr rfl))) (fun _ _ _ _ _ => sts_nil) (fun _ _ _ _ _ => (se_call (md := [false]) L.d_is_make t.g_is_make hr1 takes0 rfl (sa_cons (se_name (pv 1)) sa_nil)))) sa_nil)))))
theorem o_is_book {n : Nat} {fd : FuncData} (t : Tx K mg) (L : Lv P w K mg base (2 * n) n) (F : FunD K "is_book" "is_book" (defArgs (topS 16)) (defBody (topS 16)) (defScope (topS 16)) [] [] (He.ga K "is_book") fd) : FnOk P w K mg base (L2.CX P w) (2 * (n + 1)) (He.ga K "is_book") fd P_is_book (spOf K 1 (T (n + 1) .is_book)) :=
  def_ok (k := 2 * n + 1) (N := N_is_book) (ps := P_is_book) F sc_is_book (by decide) fun cdv A outer s H E B W hr tk =>
    have nd := sc_is_book.nd
    have hr1 := hr.mono (Nat.le_succ (2 * n))
    (sb_cons (ss_if (st_pw (sw_or (st_not (st_val (se_call (md := [false, false, false]) L.d_is_tuple t.g_is_tuple hr1 tk rfl (sa_cons (se_name (pv 0)) (sa_cons (se_const pe_int rfl) (sa_cons (se_gint t.c_MOST_KINDS rfl) sa_nil)))))) (sw_or1 (st_not (st_val (se_blt (cr_all rfl) bf_all rfl t.b_all bt_all (sa_cons (se_lc rfl nd (si_iter (se_name (pv 0))) (blkOk_by (own := [("row", 9)]) (N := N_is_book) (sc := defScope (topS 16)) (by decide +kernel)) rfl (by decide) (fun _ _ _ _ _ => (sg_name nd rfl (by first | exact .inl rfl | exact .inr rfl))) (fun _ _ _ _ _ => sts_nil) (fun _ _ _ _ _ => (se_call (md := [false]) L.d_is_kind t.g_is_kind hr1 takes0 rfl (sa_cons (se_name (pv 9)) sa_nil)))) sa_nil))))))) (sb_one (ss_ret (se_const pe_bl rfl))) sb_nil)
    (sb_cons (ss_set nd rfl (by first | exact .inl rfl | exact .inr rfl) (se_op op_addAll opf_add (se_lst (sa_cons (se_gstr t.c_NUM rfl) sa_nil)) (se_lc rfl nd (si_iter (se_name (pv 0))) (blkOk_by (own := [("name", 6), ("makes", 2)]) (N := N_is_book) (sc := defScope (topS 16)) (by decide +kernel)) rfl (by decide) (fun _ _ _ _ _ => (sg_tup rfl (sgs_cons (sg_name nd rfl (by first | exact .inl rfl | exact .inr rfl)) (sgs_cons (sg_name nd rfl (by first | exact .inl rfl | exact .inr rfl)) sgs_nil)))) (fun _ _ _ _ _ => sts_nil) (fun _ _ _ _ _ => (se_name (pv 6))))))
    (sb_cons (ss_set nd rfl (by first | exact .inl rfl | exact .inr rfl) (se_lst sa_nil))
    (sb_cons (ss_set nd rfl (by first | exact .inl rfl | exact .inr rfl) (se_lst sa_nil))
    (sb_cons (ss_for (passes_of rfl) rfl (si_iter (se_name (pv 0))) (sg_tup rfl (sgs_cons (sg_name nd rfl (by first | exact .inl rfl | exact .inr rfl)) (sgs_cons (sg_name nd rfl (by first | exact .inl rfl | exact .inr rfl)) sgs_nil))) (sb_one (ss_for (passes_of rfl) rfl (si_iter (se_name (pv 5))) (sg_tup rfl (sgs_cons (sg_name nd rfl (by first | exact .inl rfl | exact .inr rfl)) (sgs_cons (sg_name nd rfl (by first | exact .inl rfl | exact .inr rfl)) sgs_nil))) (sb_cons (ss_expr (se_mut PySem.F.slot_list_append PySem.F.type_list_append mt_append mf_append (pv 2) (sa_cons (se_name (pv 6)) sa_nil)))
    (sb_one (ss_expr (se_mut PySem.F.slot_list_extend PySem.F.type_list_extend mt_extAll mf_extend (pv 3) (sa_cons (se_name (pv 7)) sa_nil))))))))
    (sb_cons (ss_if (st_pw (sw_or (st_cmp op_lt opf_lt (se_lenSet rfl t.b_len rfl t.b_set (se_name (pv 1))) (se_blt call_lenAll bf_len rfl t.b_len bt_len (sa_cons (se_name (pv 1)) sa_nil)) rfl) (sw_or1 (st_cmp op_lt opf_lt (se_lenSet rfl t.b_len rfl t.b_set (se_name (pv 2))) (se_blt call_lenAll bf_len rfl t.b_len bt_len (sa_cons (se_name (pv 2)) sa_nil)) rfl)))) (sb_one (ss_ret (se_const pe_bl rfl))) sb_nil)
    (sb_one (ss_ret (se_blt (cr_all rfl) bf_all rfl t.b_all bt_all (sa_cons (se_lc rfl nd (si_iter (se_name (pv 3))) (blkOk_by (own := [("field", 8)]) (N := N_is_book) (sc := defScope (topS 16)) (by decide +kernel)) rfl (by decide) (fun _ _ _ _ _ => (sg_name nd rfl (by first | exact .inl rfl | exact .inr rfl))) (fun _ _ _ _ _ => sts_nil) (fun _ _ _ _ _ => (se_cmp (op_inAll (hu65 hr)) opf_in (se_name (pv 8)) (se_name (pv 1)) rfl))) sa_nil))))))))))
theorem o_in_brackets {n : Nat} {fd : FuncData} (t : Tx K mg) (L : Lv P w K mg base (2 * n) n) (F : FunD K "in_brackets" "in_brackets" (defArgs (topS 19)) (defBody (topS 19)) (defScope (topS 19)) [] [] (He.ga K "in_brackets") fd) : FnOk P w K mg base (L2.CX P w) (2 * (n + 1)) (He.ga K "in_brackets") fd P_in_brackets (spOf K 2 (T (n + 1) .in_brackets)) :=
  def_ok (k := 2 * n + 1) (N := N_in_brackets) (ps := P_in_brackets) F sc_in_brackets (by decide) fun cdv A outer s H E B W hr tk =>
    have nd := sc_in_brackets.nd
    have hr1 := hr.mono (Nat.le_succ (2 * n))
    (sb_cons (ss_if (st_cmp (op_eqD (hu64 hr)) opf_eq (se_blt call_lenAll bf_len rfl t.b_len bt_len (sa_cons (se_name (pv 1)) sa_nil)) (se_const pe_int rfl) rfl) (sb_one (ss_ret (se_name (pv 0)))) sb_nil)
    (sb_one (ss_ret (se_op op_addAll opf_add (se_op op_addAll opf_add (se_op op_addAll opf_add (se_name (pv 0)) (se_const pe_str rfl)) (se_strm PySem.F.slot_str_join PySem.F.type_str_join mt_join sf_join (se_const pe_str rfl) (sa_cons (se_name (pv 1)) sa_nil))) (se_const pe_str rfl)))))
theorem o_written_book {n : Nat} {fd : FuncData} (t : Tx K mg) (L : Lv P w K mg base (2 * n) n) (F : FunD K "written_book" "written_book" (defArgs (topS 20)) (defBody (topS 20)) (defScope (topS 20)) [] [] (He.ga K "written_book") fd) : FnOk P w K mg base (L2.CX P w) (2 * (n + 1)) (He.ga K "written_book") fd P_written_book (spOf K 1 (T (n + 1) .written_book)) :=
  def_ok (k := 2 * n + 1) (N := N_written_book) (ps := P_written_book) F sc_written_book (by decide) fun cdv A outer s H E B W hr tk =>
    have nd := sc_written_book.nd
    have hr1 := hr.mono (Nat.le_succ (2 * n))
    (sb_cons (ss_set nd rfl (by first | exact .inl rfl | exact .inr rfl) (se_lst sa_nil))
    (sb_cons (ss_for (passes_of rfl) rfl (si_iter (se_name (pv 0))) (sg_tup rfl (sgs_cons (sg_name nd rfl (by first | exact .inl rfl | exact .inr rfl)) (sgs_cons (sg_name nd rfl (by first | exact .inl rfl | exact .inr rfl)) sgs_nil))) (sb_one (ss_expr (se_mut PySem.F.slot_list_append PySem.F.type_list_append mt_append mf_append (pv 1) (sa_cons (se_op op_addAll opf_add (se_op op_addAll opf_add (se_name (pv 2)) (se_const pe_str rfl)) (se_strm PySem.F.slot_str_join PySem.F.type_str_join mt_join sf_join (se_const pe_str rfl) (sa_cons (se_lc rfl nd (si_iter (se_name (pv 3))) (blkOk_by (own := [("make", 4), ("fields", 5)]) (N := N_written_book) (sc := defScope (topS 20)) (by decide +kernel)) rfl (by decide) (fun _ _ _ _ _ => (sg_tup rfl (sgs_cons (sg_name nd rfl (by first | exact .inl rfl | exact .inr rfl)) (sgs_cons (sg_name nd rfl (by first | exact .inl rfl | exact .inr rfl)) sgs_nil)))) (fun _ _ _ _ _ => sts_nil) (fun _ _ _ _ _ => (se_call (md := [false, false]) L.d_in_brackets t.g_in_brackets hr1 takes0 rfl (sa_cons (se_name (pv 4)) (sa_cons (se_name (pv 5)) sa_nil))))) sa_nil))) sa_nil)))))
    (sb_one (ss_ret (se_strm PySem.F.slot_str_join PySem.F.type_str_join mt_join sf_join (se_const pe_str rfl) (sa_cons (se_name (pv 1)) sa_nil))))))
theorem o_Strip___init__ {n : Nat} {fd : FuncData} (t : Tx K mg) (L : Lv P w K mg base (2 * n) n) (F : FunD K "__init__" "Strip.__init__" (defArgs (L2.inClass (topS 21) 0)) (defBody (L2.inClass (topS 21) 0)) (defScope (L2.inClass (topS 21) 0)) [] [] (He.ma K (He.ga K "Strip") "__init__") fd) : FnOk P w K mg base (L2.CX P w) (2 * (n + 1)) (He.ma K (He.ga K "Strip") "__init__") fd P_Strip___init__ (spOf K 2 (T (n + 1) .Strip___init__)) :=
  def_ok (k := 2 * n + 1) (N := N_Strip___init__) (ps := P_Strip___init__) F sc_Strip___init__ (by decide) fun cdv A outer s H E B W hr tk =>
    have nd := sc_Strip___init__.nd
    have hr1 := hr.mono (Nat.le_succ (2 * n))
    (sb_cons (ss_putF (se_name (pv 1)) (pv 0) t.cls_Strip t.na_Strip_signs)
    (sb_one (ss_putF (se_const pe_int rfl) (pv 0) t.cls_Strip t.na_Strip_spot)))
theorem o_Strip_is_through {n : Nat} {fd : FuncData} (t : Tx K mg) (L : Lv P w K mg base (2 * n) n) (F : FunD K "is_through" "Strip.is_through" (defArgs (L2.inClass (topS 21) 1)) (defBody (L2.inClass (topS 21) 1)) (defScope (L2.inClass (topS 21) 1)) [] [] (He.ma K (He.ga K "Strip") "is_through") fd) : FnOk P w K mg base (L2.CX P w) (2 * (n + 1)) (He.ma K (He.ga K "Strip") "is_through") fd P_Strip_is_through (spOf K 1 (T (n + 1) .Strip_is_through)) :=
  def_ok (k := 2 * n + 1) (N := N_Strip_is_through) (ps := P_Strip_is_through) F sc_Strip_is_through (by decide) fun cdv A outer s H E B W hr tk =>
    have nd := sc_Strip_is_through.nd
    have hr1 := hr.mono (Nat.le_succ (2 * n))
    (sb_one (ss_ret (se_cmp (op_eqD (hu64 hr)) opf_eq (se_fld (se_name (pv 0)) t.cls_Strip t.na_Strip_spot) (se_blt call_lenAll bf_len rfl t.b_len bt_len (sa_cons (se_fld (se_name (pv 0)) t.cls_Strip t.na_Strip_signs) sa_nil)) rfl)))
theorem o_Strip_meets {n : Nat} {fd : FuncData} (t : Tx K mg) (L : Lv P w K mg base (2 * n) n) (F : FunD K "meets" "Strip.meets" (defArgs (L2.inClass (topS 21) 2)) (defBody (L2.inClass (topS 21) 2)) (defScope (L2.inClass (topS 21) 2)) [] [] (He.ma K (He.ga K "Strip") "meets") fd) : FnOk P w K mg base (L2.CX P w) (2 * (n + 1)) (He.ma K (He.ga K "Strip") "meets") fd P_Strip_meets (spOf K 2 (T (n + 1) .Strip_meets)) :=
  def_ok (k := 2 * n + 1) (N := N_Strip_meets) (ps := P_Strip_meets) F sc_Strip_meets (by decide) fun cdv A outer s H E B W hr tk =>
    have nd := sc_Strip_meets.nd
    have hr1 := hr.mono (Nat.le_succ (2 * n))
    (sb_one (ss_ret (se_and (se_not (se_meth0 (pl := _) L.d_Strip_is_through t.me_Strip_is_through t.cls_Strip hr1 tk (se_name (pv 0)))) (se_one (se_cmp (op_inAll (hu65 hr)) opf_in (se_ix (hu1 hr) (se_fld (se_name (pv 0)) t.cls_Strip t.na_Strip_signs) (se_fld (se_name (pv 0)) t.cls_Strip t.na_Strip_spot)) (se_name (pv 1)) rfl)))))
theorem o_Strip_passes {n : Nat} {fd : FuncData} (t : Tx K mg) (L : Lv P w K mg base (2 * n) n) (F : FunD K "passes" "Strip.passes" (defArgs (L2.inClass (topS 21) 3)) (defBody (L2.inClass (topS 21) 3)) (defScope (L2.inClass (topS 21) 3)) [] [] (He.ma K (He.ga K "Strip") "passes") fd) : FnOk P w K mg base (L2.CX P w) (2 * (n + 1)) (He.ma K (He.ga K "Strip") "passes") fd P_Strip_passes (spOf K 2 (T (n + 1) .Strip_passes)) :=
  def_ok (k := 2 * n + 1) (N := N_Strip_passes) (ps := P_Strip_passes) F sc_Strip_passes (by decide) fun cdv A outer s H E B W hr tk =>
    have nd := sc_Strip_passes.nd
    have hr1 := hr.mono (Nat.le_succ (2 * n))
    (sb_cons (ss_if (st_not (st_val (se_strm PySem.F.slot_str_startswith PySem.F.type_str_startswith mt_startswith3 sf_starts (se_fld (se_name (pv 0)) t.cls_Strip t.na_Strip_signs) (sa_cons (se_name (pv 1)) (sa_cons (se_fld (se_name (pv 0)) t.cls_Strip t.na_Strip_spot) sa_nil))))) (sb_one (ss_ret (se_const pe_bl rfl))) sb_nil)
    (sb_cons (ss_putF (se_op op_addAll opf_add (se_fld (se_name (pv 0)) t.cls_Strip t.na_Strip_spot) (se_blt call_lenAll bf_len rfl t.b_len bt_len (sa_cons (se_name (pv 1)) sa_nil))) (pv 0) t.cls_Strip t.na_Strip_spot)
    (sb_one (ss_ret (se_const pe_bl rfl)))))
theorem o_Strip_must_pass {n : Nat} {fd : FuncData} (t : Tx K mg) (L : Lv P w K mg base (2 * n) n) (F : FunD K "must_pass" "Strip.must_pass" (defArgs (L2.inClass (topS 21) 4)) (defBody (L2.inClass (topS 21) 4)) (defScope (L2.inClass (topS 21) 4)) [] [] (He.ma K (He.ga K "Strip") "must_pass") fd) : FnOk P w K mg base (L2.CX P w) (2 * (n + 1)) (He.ma K (He.ga K "Strip") "must_pass") fd P_Strip_must_pass (spOf K 2 (T (n + 1) .Strip_must_pass)) :=
  def_ok (k := 2 * n + 1) (N := N_Strip_must_pass) (ps := P_Strip_must_pass) F sc_Strip_must_pass (by decide) fun cdv A outer s H E B W hr tk =>
    have nd := sc_Strip_must_pass.nd
    have hr1 := hr.mono (Nat.le_succ (2 * n))
    (sb_one (ss_if (st_not (st_val (se_meth (md := [false]) (pl := _) L.d_Strip_passes t.me_Strip_passes t.cls_Strip hr1 tk (se_name (pv 0)) (sa_cons (se_name (pv 1)) sa_nil)))) (sb_one (ss_raise rfl tk t.x_NoText t.g_NoText t.xk_NoText (raises_own t.xs_NoText t.xt_NoText) rfl)) sb_nil))
theorem o_Strip_stretch_of {n : Nat} {fd : FuncData} (t : Tx K mg) (L : Lv P w K mg base (2 * n) n) (F : FunD K "stretch_of" "Strip.stretch_of" (defArgs (L2.inClass (topS 21) 5)) (defBody (L2.inClass (topS 21) 5)) (defScope (L2.inClass (topS 21) 5)) [] [] (He.ma K (He.ga K "Strip") "stretch_of") fd) : FnOk P w K mg base (L2.CX P w) (2 * (n + 1)) (He.ma K (He.ga K "Strip") "stretch_of") fd P_Strip_stretch_of (spOf K 2 (T (n + 1) .Strip_stretch_of)) :=
  def_ok (k := 2 * n + 1) (N := N_Strip_stretch_of) (ps := P_Strip_stretch_of) F sc_Strip_stretch_of (by decide) fun cdv A outer s H E B W hr tk =>
    have nd := sc_Strip_stretch_of.nd
    have hr1 := hr.mono (Nat.le_succ (2 * n))
    (sb_cons (ss_set nd rfl (by first | exact .inl rfl | exact .inr rfl) (se_fld (se_name (pv 0)) t.cls_Strip t.na_Strip_spot))
    (sb_cons (ss_while (passes_of rfl) (st_val (se_meth (md := [false]) (pl := _) L.d_Strip_meets t.me_Strip_meets t.cls_Strip hr1 tk (se_name (pv 0)) (sa_cons (se_name (pv 1)) sa_nil))) (sb_one (ss_putF (se_op op_addAll opf_add (se_fld (se_name (pv 0)) t.cls_Strip t.na_Strip_spot) (se_const pe_int rfl)) (pv 0) t.cls_Strip t.na_Strip_spot)))
    (sb_cons (ss_if (st_cmp (op_eqD (hu64 hr)) opf_eq (se_fld (se_name (pv 0)) t.cls_Strip t.na_Strip_spot) (se_name (pv 2)) rfl) (sb_one (ss_raise rfl tk t.x_NoText t.g_NoText t.xk_NoText (raises_own t.xs_NoText t.xt_NoText) rfl)) sb_nil)
    (sb_one (ss_ret (se_slice (se_fld (se_name (pv 0)) t.cls_Strip t.na_Strip_signs) (so_some (se_name (pv 2))) (so_some (se_fld (se_name (pv 0)) t.cls_Strip t.na_Strip_spot))))))))
theorem o_Strip_number_next {n : Nat} {fd : FuncData} (t : Tx K mg) (L : Lv P w K mg base (2 * n) n) (F : FunD K "number_next" "Strip.number_next" (defArgs (L2.inClass (topS 21) 6)) (defBody (L2.inClass (topS 21) 6)) (defScope (L2.inClass (topS 21) 6)) [] [] (He.ma K (He.ga K "Strip") "number_next") fd) : FnOk P w K mg base (L2.CX P w) (2 * (n + 1)) (He.ma K (He.ga K "Strip") "number_next") fd P_Strip_number_next (spOf K 1 (T (n + 1) .Strip_number_next)) :=
  def_ok (k := 2 * n + 1) (N := N_Strip_number_next) (ps := P_Strip_number_next) F sc_Strip_number_next (by decide) fun cdv A outer s H E B W hr tk =>
    have nd := sc_Strip_number_next.nd
    have hr1 := hr.mono (Nat.le_succ (2 * n))
    (sb_one (ss_expr (se_call (md := [false]) L.d__wall t.g__wall hr1 tk rfl (sa_cons (se_const pe_int rfl) sa_nil))))
theorem o_Strip_ends_well {n : Nat} {fd : FuncData} (t : Tx K mg) (L : Lv P w K mg base (2 * n) n) (F : FunD K "ends_well" "Strip.ends_well" (defArgs (L2.inClass (topS 21) 7)) (defBody (L2.inClass (topS 21) 7)) (defScope (L2.inClass (topS 21) 7)) [] [] (He.ma K (He.ga K "Strip") "ends_well") fd) : FnOk P w K mg base (L2.CX P w) (2 * (n + 1)) (He.ma K (He.ga K "Strip") "ends_well") fd P_Strip_ends_well (spOf K 1 (T (n + 1) .Strip_ends_well)) :=
  def_ok (k := 2 * n + 1) (N := N_Strip_ends_well) (ps := P_Strip_ends_well) F sc_Strip_ends_well (by decide) fun cdv A outer s H E B W hr tk =>
    have nd := sc_Strip_ends_well.nd
    have hr1 := hr.mono (Nat.le_succ (2 * n))
    (sb_one (ss_if (st_not (st_val (se_meth0 (pl := _) L.d_Strip_is_through t.me_Strip_is_through t.cls_Strip hr1 tk (se_name (pv 0))))) (sb_one (ss_raise rfl tk t.x_NoText t.g_NoText t.xk_NoText (raises_own t.xs_NoText t.xt_NoText) rfl)) sb_nil))
theorem o_words_read {n : Nat} {fd : FuncData} (t : Tx K mg) (L : Lv P w K mg base (2 * n) n) (F : FunD K "words_read" "words_read" (defArgs (topS 22)) (defBody (topS 22)) (defScope (topS 22)) [] [] (He.ga K "words_read") fd) : FnOk P w K mg base (L2.CX P w) (2 * (n + 1)) (He.ga K "words_read") fd P_words_read (spOf K 1 (T (n + 1) .words_read)) :=
  def_ok (k := 2 * n + 1) (N := N_words_read) (ps := P_words_read) F sc_words_read (by decide) fun cdv A outer s H E B W hr tk =>
    have nd := sc_words_read.nd
    have hr1 := hr.mono (Nat.le_succ (2 * n))
    (sb_cons (ss_set nd rfl (by first | exact .inl rfl | exact .inr rfl) (se_lst sa_nil))
    (sb_cons (ss_if (st_val (se_meth (md := [false]) (pl := _) L.d_Strip_passes t.me_Strip_passes t.cls_Strip hr1 tk (se_name (pv 0)) (sa_cons (se_const pe_str rfl) sa_nil))) (sb_cons (ss_expr (se_mut PySem.F.slot_list_append PySem.F.type_list_append mt_append mf_append (pv 1) (sa_cons (se_meth (md := [false]) (pl := _) L.d_Strip_stretch_of t.me_Strip_stretch_of t.cls_Strip hr1 tk (se_name (pv 0)) (sa_cons (se_gstr t.c_LETTERS_texts rfl) sa_nil)) sa_nil)))
    (sb_cons (ss_while (passes_of rfl) (st_val (se_meth (md := [false]) (pl := _) L.d_Strip_passes t.me_Strip_passes t.cls_Strip hr1 tk (se_name (pv 0)) (sa_cons (se_const pe_str rfl) sa_nil))) (sb_one (ss_expr (se_mut PySem.F.slot_list_append PySem.F.type_list_append mt_append mf_append (pv 1) (sa_cons (se_meth (md := [false]) (pl := _) L.d_Strip_stretch_of t.me_Strip_stretch_of t.cls_Strip hr1 tk (se_name (pv 0)) (sa_cons (se_gstr t.c_LETTERS_texts rfl) sa_nil)) sa_nil)))))
    (sb_one (ss_expr (se_meth (md := [false]) (pl := _) L.d_Strip_must_pass t.me_Strip_must_pass t.cls_Strip hr1 tk (se_name (pv 0)) (sa_cons (se_const pe_str rfl) sa_nil)))))) sb_nil)
    (sb_one (ss_ret (se_bty call_tuple_of bf_tuple rfl t.b_tuple bt_tuple (sa_cons (se_name (pv 1)) sa_nil))))))
theorem o_kind_read {n : Nat} {fd : FuncData} (t : Tx K mg) (L : Lv P w K mg base (2 * n) n) (F : FunD K "kind_read" "kind_read" (defArgs (topS 23)) (defBody (topS 23)) (defScope (topS 23)) [] [] (He.ga K "kind_read") fd) : FnOk P w K mg base (L2.CX P w) (2 * (n + 1)) (He.ga K "kind_read") fd P_kind_read (spOf K 1 (T (n + 1) .kind_read)) :=
  def_ok (k := 2 * n + 1) (N := N_kind_read) (ps := P_kind_read) F sc_kind_read (by decide) fun cdv A outer s H E B W hr tk =>
    have nd := sc_kind_read.nd
    have hr1 := hr.mono (Nat.le_succ (2 * n))
    (sb_cons (ss_set nd rfl (by first | exact .inl rfl | exact .inr rfl) (se_meth (md := [false]) (pl := _) L.d_Strip_stretch_of t.me_Strip_stretch_of t.cls_Strip hr1 tk (se_name (pv 0)) (sa_cons (se_gstr t.c_LETTERS_texts rfl) sa_nil)))
    (sb_cons (ss_expr (se_meth (md := [false]) (pl := _) L.d_Strip_must_pass t.me_Strip_must_pass t.cls_Strip hr1 tk (se_name (pv 0)) (sa_cons (se_const pe_str rfl) sa_nil)))
    (sb_cons (ss_set nd rfl (by first | exact .inl rfl | exact .inr rfl) (se_lst (sa_cons (se_tup (sa_cons (se_meth (md := [false]) (pl := _) L.d_Strip_stretch_of t.me_Strip_stretch_of t.cls_Strip hr1 tk (se_name (pv 0)) (sa_cons (se_gstr t.c_LETTERS_texts rfl) sa_nil)) (sa_cons (se_call (md := [true]) L.d_words_read t.g_words_read hr1 tk rfl (sa_cons (se_name (pv 0)) sa_nil)) sa_nil))) sa_nil)))
    (sb_cons (ss_while (passes_of rfl) (st_val (se_meth (md := [false]) (pl := _) L.d_Strip_passes t.me_Strip_passes t.cls_Strip hr1 tk (se_name (pv 0)) (sa_cons (se_const pe_str rfl) sa_nil))) (sb_cons (ss_set nd rfl (by first | exact .inl rfl | exact .inr rfl) (se_meth (md := [false]) (pl := _) L.d_Strip_stretch_of t.me_Strip_stretch_of t.cls_Strip hr1 tk (se_name (pv 0)) (sa_cons (se_gstr t.c_LETTERS_texts rfl) sa_nil)))
    (sb_one (ss_expr (se_mut PySem.F.slot_list_append PySem.F.type_list_append mt_append mf_append (pv 2) (sa_cons (se_tup (sa_cons (se_name (pv 3)) (sa_cons (se_call (md := [true]) L.d_words_read t.g_words_read hr1 tk rfl (sa_cons (se_name (pv 0)) sa_nil)) sa_nil))) sa_nil))))))
    (sb_one (ss_ret (se_tup (sa_cons (se_name (pv 1)) (sa_cons (se_bty call_tuple_of bf_tuple rfl t.b_tuple bt_tuple (sa_cons (se_name (pv 2)) sa_nil)) sa_nil)))))))))
theorem o_strip_of {n : Nat} {fd : FuncData} (t : Tx K mg) (L : Lv P w K mg base (2 * n) n) (F : FunD K "strip_of" "strip_of" (defArgs (topS 24)) (defBody (topS 24)) (defScope (topS 24)) [] [] (He.ga K "strip_of") fd) : FnOk P w K mg base (L2.CX P w) (2 * (n + 1)) (He.ga K "strip_of") fd P_strip_of (spOf K 1 (T (n + 1) .strip_of)) :=
  def_ok (k := 2 * n + 1) (N := N_strip_of) (ps := P_strip_of) F sc_strip_of (by decide) fun cdv A outer s H E B W hr tk =>
    have nd := sc_strip_of.nd
    have hr1 := hr.mono (Nat.le_succ (2 * n))
    (sb_cons (ss_if (st_not (st_val (se_isi (se_name (pv 0)) rfl t.b_isinstance bt_isinstance rfl t.b_str bt_str))) (sb_one (ss_raise rfl tk t.x_NoText t.g_NoText t.xk_NoText (raises_own t.xs_NoText t.xt_NoText) rfl)) sb_nil)
    (sb_one (ss_ret (se_new (md := [false]) L.d_Strip___init__ t.mk_Strip t.g_Strip hr rfl (sa_cons (se_name (pv 0)) sa_nil)))))
theorem o_read_book {n : Nat} {fd : FuncData} (t : Tx K mg) (L : Lv P w K mg base (2 * n) n) (F : FunD K "read_book" "read_book" (defArgs (topS 25)) (defBody (topS 25)) (defScope (topS 25)) [] [] (He.ga K "read_book") fd) : FnOk P w K mg base (L2.CX P w) (2 * (n + 1)) (He.ga K "read_book") fd P_read_book (spOf K 1 (T (n + 1) .read_book)) :=
  def_ok (k := 2 * n + 1) (N := N_read_book) (ps := P_read_book) F sc_read_book (by decide) fun cdv A outer s H E B W hr tk =>
    have nd := sc_read_book.nd
    have hr1 := hr.mono (Nat.le_succ (2 * n))
    (sb_cons (ss_set nd rfl (by first | exact .inl rfl | exact .inr rfl) (se_call (md := [false]) L.d_strip_of t.g_strip_of hr1 tk rfl (sa_cons (se_name (pv 0)) sa_nil)))
    (sb_cons (ss_set nd rfl (by first | exact .inl rfl | exact .inr rfl) (se_lst (sa_cons (se_call (md := [true]) L.d_kind_read t.g_kind_read hr1 tk rfl (sa_cons (se_name (pv 1)) sa_nil)) sa_nil)))
    (sb_cons (ss_while (passes_of rfl) (st_val (se_meth (md := [false]) (pl := _) L.d_Strip_passes t.me_Strip_passes t.cls_Strip hr1 tk (se_name (pv 1)) (sa_cons (se_const pe_str rfl) sa_nil))) (sb_one (ss_expr (se_mut PySem.F.slot_list_append PySem.F.type_list_append mt_append mf_append (pv 2) (sa_cons (se_call (md := [true]) L.d_kind_read t.g_kind_read hr1 tk rfl (sa_cons (se_name (pv 1)) sa_nil)) sa_nil)))))
    (sb_cons (ss_expr (se_meth0 (pl := _) L.d_Strip_ends_well t.me_Strip_ends_well t.cls_Strip hr1 tk (se_name (pv 1))))
    (sb_cons (ss_set nd rfl (by first | exact .inl rfl | exact .inr rfl) (se_bty call_tuple_of bf_tuple rfl t.b_tuple bt_tuple (sa_cons (se_name (pv 2)) sa_nil)))
    (sb_cons (ss_if (st_not (st_val (se_call (md := [false]) L.d_is_book t.g_is_book hr1 tk rfl (sa_cons (se_name (pv 3)) sa_nil)))) (sb_one (ss_raise rfl tk t.x_NoText t.g_NoText t.xk_NoText (raises_own t.xs_NoText t.xt_NoText) rfl)) sb_nil)
    (sb_one (ss_ret (se_name (pv 3))))))))))
theorem o__law_cell {n : Nat} {fd : FuncData} (t : Tx K mg) (L : Lv P w K mg base (2 * n) n) (F : FunD K "_law_cell" "_law_cell" (defArgs (topS 27)) (defBody (topS 27)) (defScope (topS 27)) [] [] (He.ga K "_law_cell") fd) : FnOk P w K mg base (L2.CX P w) (2 * (n + 1)) (He.ga K "_law_cell") fd P__law_cell (spOf K 2 (T (n + 1) ._law_cell)) :=
  def_ok (k := 2 * n + 1) (N := N__law_cell) (ps := P__law_cell) F sc__law_cell (by decide) fun cdv A outer s H E B W hr tk =>
    have nd := sc__law_cell.nd
    have hr1 := hr.mono (Nat.le_succ (2 * n))
    (sb_cons (ss_if (st_cmp op_lt opf_lt (se_name (pv 1)) (se_blt call_lenAll bf_len rfl t.b_len bt_len (sa_cons (se_name (pv 0)) sa_nil)) rfl) (sb_one (ss_ret (se_ix (hu1 hr) (se_name (pv 0)) (se_name (pv 1))))) sb_nil)
    (sb_one (ss_ret (se_op op_addAll opf_add (se_op op_mul opf_mul (se_op op_mul opf_mul (se_const pe_int rfl) (se_name (pv 1))) (se_name (pv 1))) (se_op op_mul opf_mul (se_const pe_int rfl) (se_name (pv 1)))))))
theorem o__law_dig {n : Nat} {fd : FuncData} (t : Tx K mg) (L : Lv P w K mg base (2 * n) n) (F : FunD K "_law_dig" "_law_dig" (defArgs (topS 28)) (defBody (topS 28)) (defScope (topS 28)) [] [] (He.ga K "_law_dig") fd) : FnOk P w K mg base (L2.CX P w) (2 * (n + 1)) (He.ga K "_law_dig") fd P__law_dig (spOf K 1 (T (n + 1) ._law_dig)) :=
  def_ok (k := 2 * n + 1) (N := N__law_dig) (ps := P__law_dig) F sc__law_dig (by decide) fun cdv A outer s H E B W hr tk =>
    have nd := sc__law_dig.nd
    have hr1 := hr.mono (Nat.le_succ (2 * n))
    (sb_one (ss_ret (se_lst (sa_cons (se_blt (call_max2 rfl) bf_max rfl t.b_max bt_max (sa_cons (se_const pe_int rfl) (sa_cons (se_op op_sub opf_sub (se_name (pv 0)) (se_op op_pow opf_pow (se_const pe_int rfl) (se_const pe_int rfl))) sa_nil))) (sa_cons (se_op op_mod opf_mod (se_name (pv 0)) (se_op op_pow opf_pow (se_const pe_int rfl) (se_const pe_int rfl))) (sa_cons (se_const pe_int rfl) sa_nil))))))
theorem o__law_next {n : Nat} {fd : FuncData} (t : Tx K mg) (L : Lv P w K mg base (2 * n) n) (F : FunD K "_law_next" "_law_next" (defArgs (topS 29)) (defBody (topS 29)) (defScope (topS 29)) [] [] (He.ga K "_law_next") fd) : FnOk P w K mg base (L2.CX P w) (2 * (n + 1)) (He.ga K "_law_next") fd P__law_next (spOf K 2 (T (n + 1) ._law_next)) :=
  def_ok (k := 2 * n + 1) (N := N__law_next) (ps := P__law_next) F sc__law_next (by decide) fun cdv A outer s H E B W hr tk =>
    have nd := sc__law_next.nd
    have hr1 := hr.mono (Nat.le_succ (2 * n))
    (sb_cons (ss_if (st_cmp op_gt opf_gt (se_ix (hu1 hr) (se_name (pv 0)) (se_const pe_int rfl)) (se_const pe_int rfl) rfl) (sb_cons (ss_set nd rfl (by first | exact .inl rfl | exact .inr rfl) (se_op op_mod opf_mod (se_ix (hu1 hr) (se_name (pv 0)) (se_const pe_int rfl)) (se_name (pv 1))))
    (sb_cons (ss_putL (se_op op_fdiv opf_fdiv (se_ix (hu1 hr) (se_name (pv 0)) (se_const pe_int rfl)) (se_name (pv 1))) (pv 0) (se_const pe_int rfl))
    (sb_one (ss_ret (se_name (pv 4)))))) sb_nil)
    (sb_cons (ss_putL (se_op op_addAll opf_add (se_ix (hu1 hr) (se_name (pv 0)) (se_const pe_int rfl)) (se_const pe_int rfl)) (pv 0) (se_const pe_int rfl))
    (sb_cons (ss_set nd rfl (by first | exact .inl rfl | exact .inr rfl) (se_op op_mod opf_mod (se_op op_addAll opf_add (se_ix (hu1 hr) (se_name (pv 0)) (se_const pe_int rfl)) (se_op op_mul opf_mul (se_const pe_int rfl) (se_ix (hu1 hr) (se_name (pv 0)) (se_const pe_int rfl)))) (se_const pe_int rfl)))
    (sb_cons (ss_set nd rfl (by first | exact .inl rfl | exact .inr rfl) (se_op op_mod opf_mod (se_op op_mul opf_mul (se_op op_addAll opf_add (se_name (pv 2)) (se_const pe_int rfl)) (se_op op_addAll opf_add (se_name (pv 2)) (se_const pe_int rfl))) (se_const pe_int rfl)))
    (sb_one (ss_ret (se_op op_mod opf_mod (se_op op_fdiv opf_fdiv (se_op op_mod opf_mod (se_op op_mul opf_mul (se_name (pv 3)) (se_name (pv 3))) (se_const pe_int rfl)) (se_const pe_int rfl)) (se_name (pv 1)))))))))
theorem o__law_words {n : Nat} {fd : FuncData} (t : Tx K mg) (L : Lv P w K mg base (2 * n) n) (F : FunD K "_law_words" "_law_words" (defArgs (topS 30)) (defBody (topS 30)) (defScope (topS 30)) [] [] (He.ga K "_law_words") fd) : FnOk P w K mg base (L2.CX P w) (2 * (n + 1)) (He.ga K "_law_words") fd P__law_words (spOf K 2 (T (n + 1) ._law_words)) :=
  def_ok (k := 2 * n + 1) (N := N__law_words) (ps := P__law_words) F sc__law_words (by decide) fun cdv A outer s H E B W hr tk =>
    have nd := sc__law_words.nd
    have hr1 := hr.mono (Nat.le_succ (2 * n))
    (sb_cons (ss_set nd rfl (by first | exact .inl rfl | exact .inr rfl) (se_const pe_str rfl))
    (sb_cons (ss_set nd rfl (by first | exact .inl rfl | exact .inr rfl) (se_strm PySem.F.slot_str_join PySem.F.type_str_join mt_join sf_join (se_const pe_str rfl) (sa_cons (se_lc rfl nd (si_range1 rfl t.b_range (sa_cons (se_call (md := [true, false]) L.d__law_next t.g__law_next hr1 tk rfl (sa_cons (se_name (pv 0)) (sa_cons (se_const pe_int rfl) sa_nil))) sa_nil)) (blkOk_by (own := [("k", 9)]) (N := N__law_words) (sc := defScope (topS 30)) (by decide +kernel)) rfl (by decide) (fun _ _ _ _ _ => (sg_name nd rfl (by first | exact .inl rfl | exact .inr rfl))) (fun _ _ _ _ _ => sts_nil) (fun _ _ _ _ _ => (se_ix (hu1 hr) (se_name (pv 2)) (se_call (md := [true, false]) L.d__law_next t.g__law_next hr1 takes0 rfl (sa_cons (se_name (pv 0)) (sa_cons (se_const pe_int rfl) sa_nil)))))) sa_nil)))
    (sb_cons (ss_set nd rfl (by first | exact .inl rfl | exact .inr rfl) (se_call (md := [true, false]) L.d__law_next t.g__law_next hr1 tk rfl (sa_cons (se_name (pv 0)) (sa_cons (se_op op_addAll opf_add (se_blt call_lenAll bf_len rfl t.b_len bt_len (sa_cons (se_name (pv 3)) sa_nil)) (se_const pe_int rfl)) sa_nil))))
    (sb_cons (ss_set nd rfl (by first | exact .inl rfl | exact .inr rfl) (se_call (md := [true, false]) L.d__law_next t.g__law_next hr1 tk rfl (sa_cons (se_name (pv 0)) (sa_cons (se_const pe_int rfl) sa_nil))))
    (sb_cons (ss_set nd rfl (by first | exact .inl rfl | exact .inr rfl) (se_ix (hu1 hr) (se_lst (sa_cons (se_const pe_int rfl) (sa_cons (se_const pe_int rfl) (sa_cons (se_const pe_int rfl) (sa_cons (se_const pe_int rfl) sa_nil))))) (se_call (md := [true, false]) L.d__law_next t.g__law_next hr1 tk rfl (sa_cons (se_name (pv 0)) (sa_cons (se_const pe_int rfl) sa_nil)))))
    (sb_cons (ss_set nd rfl (by first | exact .inl rfl | exact .inr rfl) (se_op op_mul opf_mul (se_call (md := [true, false]) L.d__law_next t.g__law_next hr1 tk rfl (sa_cons (se_name (pv 0)) (sa_cons (se_const pe_int rfl) sa_nil))) (se_bty call_intAll bf_int rfl t.b_int bt_int (sa_cons (se_cmp op_lt opf_lt (se_name (pv 4)) (se_blt call_lenAll bf_len rfl t.b_len bt_len (sa_cons (se_name (pv 3)) sa_nil)) rfl) sa_nil))))
    (sb_cons (ss_set nd rfl (by first | exact .inl rfl | exact .inr rfl) (se_lst sa_nil))
    (sb_cons (ss_for (passes_of rfl) rfl (si_range1 rfl t.b_range (sa_cons (se_name (pv 1)) sa_nil)) (sg_name nd rfl (by first | exact .inl rfl | exact .inr rfl)) (sb_cons (ss_set nd rfl (by first | exact .inl rfl | exact .inr rfl) (se_op op_mod opf_mod (se_op op_addAll opf_add (se_name (pv 5)) (se_op op_mul opf_mul (se_name (pv 9)) (se_name (pv 6)))) (se_const pe_int rfl)))
    (sb_cons (ss_set nd rfl (by first | exact .inl rfl | exact .inr rfl) (se_op op_addAll opf_add (se_ix (hu1 hr) (se_name (pv 2)) (se_op op_fdiv opf_fdiv (se_name (pv 10)) (se_const pe_int rfl))) (se_ix (hu1 hr) (se_name (pv 2)) (se_op op_mod opf_mod (se_name (pv 10)) (se_const pe_int rfl)))))
    (sb_cons (ss_set nd rfl (by first | exact .inl rfl | exact .inr rfl) (se_op op_addAll opf_add (se_op op_addAll opf_add (se_slice (se_name (pv 3)) so_none (so_some (se_name (pv 4)))) (se_name (pv 11))) (se_slice (se_name (pv 3)) (so_some (se_name (pv 4))) so_none)))
    (sb_one (ss_expr (se_mut PySem.F.slot_list_append PySem.F.type_list_append mt_append mf_append (pv 8) (sa_cons (se_slice (se_name (pv 12)) so_none (so_some (se_op op_sub opf_sub (se_blt call_lenAll bf_len rfl t.b_len bt_len (sa_cons (se_name (pv 12)) sa_nil)) (se_op op_mul opf_mul (se_name (pv 7)) (se_bty call_intAll bf_int rfl t.b_int bt_int (sa_cons (se_cmp (op_eqD (hu64 hr)) opf_eq (se_op op_mod opf_mod (se_name (pv 9)) (se_const pe_int rfl)) (se_const pe_int rfl) rfl) sa_nil)))))) sa_nil))))))))
    (sb_one (ss_ret (se_name (pv 8))))))))))))
theorem o__law_volume {n : Nat} {fd : FuncData} (t : Tx K mg) (L : Lv P w K mg base (2 * n) n) (F : FunD K "_law_volume" "_law_volume" (defArgs (topS 31)) (defBody (topS 31)) (defScope (topS 31)) [] [] (He.ga K "_law_volume") fd) : FnOk P w K mg base (L2.CX P w) (2 * (n + 1)) (He.ga K "_law_volume") fd P__law_volume (spOf K 1 (T (n + 1) ._law_volume)) :=
  def_ok (k := 2 * n + 1) (N := N__law_volume) (ps := P__law_volume) F sc__law_volume (by decide) fun cdv A outer s H E B W hr tk =>
    have nd := sc__law_volume.nd
    have hr1 := hr.mono (Nat.le_succ (2 * n))
    (sb_cons (ss_set nd rfl (by first | exact .inl rfl | exact .inr rfl) (se_op op_addAll opf_add (se_const pe_int rfl) (se_call (md := [true, false]) L.d__law_next t.g__law_next hr1 tk rfl (sa_cons (se_name (pv 0)) (sa_cons (se_const pe_int rfl) sa_nil)))))
    (sb_cons (ss_set nd rfl (by first | exact .inl rfl | exact .inr rfl) (se_lc rfl nd (si_iter (se_call (md := [true, false]) L.d__law_words t.g__law_words hr1 tk rfl (sa_cons (se_name (pv 0)) (sa_cons (se_name (pv 1)) sa_nil)))) (blkOk_by (own := [("name", 8)]) (N := N__law_volume) (sc := defScope (topS 31)) (by decide +kernel)) rfl (by decide) (fun _ _ _ _ _ => (sg_name nd rfl (by first | exact .inl rfl | exact .inr rfl))) (fun _ _ _ _ _ => sts_nil) (fun _ _ _ _ _ => (se_ix (hu1 hr) (se_lst (sa_cons (se_name (pv 8)) (sa_cons (se_const pe_str rfl) sa_nil))) (se_bty call_intAll bf_int rfl t.b_int bt_int (sa_cons (se_cmp (op_eqD (hu64 hr)) opf_eq (se_name (pv 8)) (se_const pe_str rfl) rfl) sa_nil))))))
    (sb_cons (ss_set nd rfl (by first | exact .inl rfl | exact .inr rfl) (se_call (md := [true, false]) L.d__law_words t.g__law_words hr1 tk rfl (sa_cons (se_name (pv 0)) (sa_cons (se_const pe_int rfl) sa_nil))))
    (sb_cons (ss_set nd rfl (by first | exact .inl rfl | exact .inr rfl) (se_lst sa_nil))
    (sb_cons (ss_for (passes_of rfl) rfl (si_iter (se_name (pv 2))) (sg_name nd rfl (by first | exact .inl rfl | exact .inr rfl)) (sb_cons (ss_set nd rfl (by first | exact .inl rfl | exact .inr rfl) (se_lst sa_nil))
    (sb_cons (ss_for (passes_of rfl) rfl (si_range1 rfl t.b_range (sa_cons (se_ix (hu1 hr) (se_lst (sa_cons (se_const pe_int rfl) (sa_cons (se_const pe_int rfl) (sa_cons (se_const pe_int rfl) (sa_cons (se_const pe_int rfl) (sa_cons (se_const pe_int rfl) (sa_cons (se_const pe_int rfl) sa_nil))))))) (se_call (md := [true, false]) L.d__law_next t.g__law_next hr1 tk rfl (sa_cons (se_name (pv 0)) (sa_cons (se_const pe_int rfl) sa_nil)))) sa_nil)) (sg_name nd rfl (by first | exact .inl rfl | exact .inr rfl)) (sb_cons (ss_setLc rfl nd rfl rfl (sw_true rfl rfl rfl (by decide +kernel)) (si_range1 rfl t.b_range (sa_cons (se_call (md := [true, false]) L.d__law_next t.g__law_next hr1 tk rfl (sa_cons (se_name (pv 0)) (sa_cons (se_const pe_int rfl) sa_nil))) sa_nil)) (blkOk_by (own := [("at", 10)]) (N := N__law_volume) (sc := defScope (topS 31)) (by decide +kernel)) rfl (by decide) (fun _ _ _ _ _ => (sg_name nd rfl (by first | exact .inl rfl | exact .inr rfl))) (fun _ _ _ _ _ => sts_nil) (fun _ _ _ _ _ => (se_ix (hu1 hr) (se_op op_addAll opf_add (se_name (pv 2)) (se_lst (sa_cons (se_const pe_str rfl) sa_nil))) (se_call (md := [true, false]) L.d__law_next t.g__law_next hr1 takes0 rfl (sa_cons (se_name (pv 0)) (sa_cons (se_op op_addAll opf_add (se_name (pv 1)) (se_const pe_int rfl)) sa_nil))))))
    (sb_one (ss_expr (se_mut PySem.F.slot_list_append PySem.F.type_list_append mt_append mf_append (pv 6) (sa_cons (se_tup (sa_cons (se_mut PySem.F.slot_list_pop PySem.F.type_list_pop mt_popAt mf_popAt (pv 3) (sa_cons (se_const pe_int rfl) sa_nil)) (sa_cons (se_bty call_tuple_of bf_tuple rfl t.b_tuple bt_tuple (sa_cons (se_name (pv 9)) sa_nil)) sa_nil))) sa_nil))))))
    (sb_one (ss_expr (se_mut PySem.F.slot_list_append PySem.F.type_list_append mt_append mf_append (pv 4) (sa_cons (se_tup (sa_cons (se_name (pv 5)) (sa_cons (se_bty call_tuple_of bf_tuple rfl t.b_tuple bt_tuple (sa_cons (se_name (pv 6)) sa_nil)) sa_nil))) sa_nil)))))))
    (sb_one (ss_ret (se_bty call_tuple_of bf_tuple rfl t.b_tuple bt_tuple (sa_cons (se_name (pv 4)) sa_nil)))))))))
theorem o__law_alike {n : Nat} {fd : FuncData} (t : Tx K mg) (L : Lv P w K mg base (2 * n) n) (F : FunD K "_law_alike" "_law_alike" (defArgs (topS 32)) (defBody (topS 32)) (defScope (topS 32)) [] [] (He.ga K "_law_alike") fd) : FnOk P w K mg base (L2.CX P w) (2 * (n + 1)) (He.ga K "_law_alike") fd P__law_alike (spOf K 2 (T (n + 1) ._law_alike)) :=
  def_ok (k := 2 * n + 1) (N := N__law_alike) (ps := P__law_alike) F sc__law_alike (by decide) fun cdv A outer s H E B W hr tk =>
    have nd := sc__law_alike.nd
    have hr1 := hr.mono (Nat.le_succ (2 * n))
    (sb_cons (ss_if (st_val (se_isi (se_name (pv 1)) rfl t.b_isinstance bt_isinstance rfl t.b_tuple bt_tuple)) (sb_cons (ss_if (st_pw (sw_or (st_not (st_val (se_isi (se_name (pv 0)) rfl t.b_isinstance bt_isinstance rfl t.b_tuple bt_tuple))) (sw_or1 (st_cmp (op_neD (hu64 hr)) opf_ne (se_blt call_lenAll bf_len rfl t.b_len bt_len (sa_cons (se_name (pv 0)) sa_nil)) (se_blt call_lenAll bf_len rfl t.b_len bt_len (sa_cons (se_name (pv 1)) sa_nil)) rfl)))) (sb_one (ss_ret (se_const pe_bl rfl))) sb_nil)
    (sb_one (ss_ret (se_blt (cr_all rfl) bf_all rfl t.b_all bt_all (sa_cons (se_lc rfl nd (si_zip rfl t.b_zip (sa_cons (se_name (pv 0)) (sa_cons (se_name (pv 1)) sa_nil))) (blkOk_by (own := [("one", 2), ("other", 3)]) (N := N__law_alike) (sc := defScope (topS 32)) (by decide +kernel)) rfl (by decide) (fun _ _ _ _ _ => (sg_tup rfl (sgs_cons (sg_name nd rfl (by first | exact .inl rfl | exact .inr rfl)) (sgs_cons (sg_name nd rfl (by first | exact .inl rfl | exact .inr rfl)) sgs_nil)))) (fun _ _ _ _ _ => sts_nil) (fun _ _ _ _ _ => (se_call (md := [false, false]) L.d__law_alike t.g__law_alike hr1 takes0 rfl (sa_cons (se_name (pv 2)) (sa_cons (se_name (pv 3)) sa_nil))))) sa_nil))))) sb_nil)
    (sb_cons (ss_if (st_val (se_isi (se_name (pv 1)) rfl t.b_isinstance bt_isinstance rfl t.b_int bt_int)) (sb_one (ss_ret (se_and (se_isi (se_name (pv 0)) rfl t.b_isinstance bt_isinstance rfl t.b_int bt_int) (se_and (se_not (se_isi (se_name (pv 0)) rfl t.b_isinstance bt_isinstance rfl t.b_bool bt_bool)) (se_one (se_cmp (op_eqD (hu64 hr)) opf_eq (se_name (pv 0)) (se_name (pv 1)) rfl)))))) sb_nil)
    (sb_cons (ss_if (st_val (se_isi (se_name (pv 1)) rfl t.b_isinstance bt_isinstance rfl t.b_str bt_str)) (sb_one (ss_ret (se_and (se_isi (se_name (pv 0)) rfl t.b_isinstance bt_isinstance rfl t.b_str bt_str) (se_one (se_cmp (op_eqD (hu64 hr)) opf_eq (se_name (pv 0)) (se_name (pv 1)) rfl))))) sb_nil)
    (sb_one (ss_ret (se_and (se_cmp op_isN opf_isN (se_name (pv 0)) (se_const pe_non trivial) rfl) (se_one (se_cmp op_isN opf_isN (se_name (pv 1)) (se_const pe_non trivial) rfl))))))))
theorem o__law_bracketed {n : Nat} {fd : FuncData} (t : Tx K mg) (L : Lv P w K mg base (2 * n) n) (F : FunD K "_law_bracketed" "_law_bracketed" (defArgs (topS 33)) (defBody (topS 33)) (defScope (topS 33)) [] [] (He.ga K "_law_bracketed") fd) : FnOk P w K mg base (L2.CX P w) (2 * (n + 1)) (He.ga K "_law_bracketed") fd P__law_bracketed (spOf K 2 (T (n + 1) ._law_bracketed)) :=
  def_ok (k := 2 * n + 1) (N := N__law_bracketed) (ps := P__law_bracketed) F sc__law_bracketed (by decide) fun cdv A outer s H E B W hr tk =>
    have nd := sc__law_bracketed.nd
    have hr1 := hr.mono (Nat.le_succ (2 * n))
    (sb_cons (ss_if (st_cmp (op_eqD (hu64 hr)) opf_eq (se_blt call_lenAll bf_len rfl t.b_len bt_len (sa_cons (se_name (pv 1)) sa_nil)) (se_const pe_int rfl) rfl) (sb_one (ss_ret (se_name (pv 0)))) sb_nil)
    (sb_one (ss_ret (se_op op_addAll opf_add (se_op op_addAll opf_add (se_op op_addAll opf_add (se_name (pv 0)) (se_const pe_str rfl)) (se_strm PySem.F.slot_str_join PySem.F.type_str_join mt_join sf_join (se_const pe_str rfl) (sa_cons (se_name (pv 1)) sa_nil))) (se_const pe_str rfl)))))
theorem o__law_book_text {n : Nat} {fd : FuncData} (t : Tx K mg) (L : Lv P w K mg base (2 * n) n) (F : FunD K "_law_book_text" "_law_book_text" (defArgs (topS 34)) (defBody (topS 34)) (defScope (topS 34)) [] [] (He.ga K "_law_book_text") fd) : FnOk P w K mg base (L2.CX P w) (2 * (n + 1)) (He.ga K "_law_book_text") fd P__law_book_text (spOf K 1 (T (n + 1) ._law_book_text)) :=
  def_ok (k := 2 * n + 1) (N := N__law_book_text) (ps := P__law_book_text) F sc__law_book_text (by decide) fun cdv A outer s H E B W hr tk =>
    have nd := sc__law_book_text.nd
    have hr1 := hr.mono (Nat.le_succ (2 * n))
    (sb_cons (ss_set nd rfl (by first | exact .inl rfl | exact .inr rfl) (se_lst sa_nil))
    (sb_cons (ss_for (passes_of rfl) rfl (si_iter (se_name (pv 0))) (sg_tup rfl (sgs_cons (sg_name nd rfl (by first | exact .inl rfl | exact .inr rfl)) (sgs_cons (sg_name nd rfl (by first | exact .inl rfl | exact .inr rfl)) sgs_nil))) (sb_one (ss_expr (se_mut PySem.F.slot_list_append PySem.F.type_list_append mt_append mf_append (pv 1) (sa_cons (se_op op_addAll opf_add (se_op op_addAll opf_add (se_name (pv 2)) (se_const pe_str rfl)) (se_strm PySem.F.slot_str_join PySem.F.type_str_join mt_join sf_join (se_const pe_str rfl) (sa_cons (se_lc rfl nd (si_iter (se_name (pv 3))) (blkOk_by (own := [("make", 4)]) (N := N__law_book_text) (sc := defScope (topS 34)) (by decide +kernel)) rfl (by decide) (fun _ _ _ _ _ => (sg_name nd rfl (by first | exact .inl rfl | exact .inr rfl))) (fun _ _ _ _ _ => sts_nil) (fun _ _ _ _ _ => (se_call (md := [false, false]) L.d__law_bracketed t.g__law_bracketed hr1 takes0 rfl (sa_cons (se_ix (hu1 hr) (se_name (pv 4)) (se_const pe_int rfl)) (sa_cons (se_ix (hu1 hr) (se_name (pv 4)) (se_const pe_int rfl)) sa_nil))))) sa_nil))) sa_nil)))))
    (sb_one (ss_ret (se_strm PySem.F.slot_str_join PySem.F.type_str_join mt_join sf_join (se_const pe_str rfl) (sa_cons (se_name (pv 1)) sa_nil))))))
theorem o_law {n : Nat} {fd : FuncData} (t : Tx K mg) (L : Lv P w K mg base (2 * n) n) (F : FunD K "law" "law" (defArgs (topS 35)) (defBody (topS 35)) (defScope (topS 35)) [] [] (He.ga K "law") fd) : FnOk P w K mg base (L2.CX P w) (2 * (n + 1)) (He.ga K "law") fd P_law (spOf K 1 (T (n + 1) .law)) :=
  def_ok (k := 2 * n + 1) (N := N_law) (ps := P_law) F sc_law (by decide) fun cdv A outer s H E B W hr tk =>
    have nd := sc_law.nd
    have hr1 := hr.mono (Nat.le_succ (2 * n))
    (sb_cons (ss_for (passes_of rfl) rfl (si_range1 rfl t.b_range (sa_cons (se_blt (call_max2 rfl) bf_max rfl t.b_max bt_max (sa_cons (se_const pe_int rfl) (sa_cons (se_blt (call_min2 rfl) bf_min rfl t.b_min bt_min (sa_cons (se_const pe_int rfl) (sa_cons (se_blt call_lenAll bf_len rfl t.b_len bt_len (sa_cons (se_name (pv 0)) sa_nil)) sa_nil))) sa_nil))) sa_nil)) (sg_name nd rfl (by first | exact .inl rfl | exact .inr rfl)) (sb_cons (ss_set nd rfl (by first | exact .inl rfl | exact .inr rfl) (se_call (md := [true]) L.d__law_volume t.g__law_volume hr1 tk rfl (sa_cons (se_call (md := [false]) L.d__law_dig t.g__law_dig hr1 tk rfl (sa_cons (se_call (md := [false, false]) L.d__law_cell t.g__law_cell hr1 tk rfl (sa_cons (se_name (pv 0)) (sa_cons (se_name (pv 1)) sa_nil))) sa_nil)) sa_nil)))
    (sb_cons (ss_set nd rfl (by first | exact .inl rfl | exact .inr rfl) (se_call (md := [false]) L.d__law_book_text t.g__law_book_text hr1 tk rfl (sa_cons (se_name (pv 2)) sa_nil)))
    (sb_cons (ss_if (st_not (st_val (se_call (md := [false, false]) L.d__law_alike t.g__law_alike hr1 tk rfl (sa_cons (se_call (md := [false]) L.d_written_book t.g_written_book hr1 tk rfl (sa_cons (se_name (pv 2)) sa_nil)) (sa_cons (se_name (pv 3)) sa_nil))))) (sb_one (ss_ret (se_const pe_bl rfl))) sb_nil)
    (sb_one (ss_for (passes_of rfl) rfl (si_range1 rfl t.b_range (sa_cons (se_const pe_int rfl) sa_nil)) (sg_name nd rfl (by first | exact .inl rfl | exact .inr rfl)) (sb_one (ss_if (st_not (st_val (se_call (md := [false, false]) L.d__law_alike t.g__law_alike hr1 tk rfl (sa_cons (se_call (md := [false]) L.d_read_book t.g_read_book hr1 tk rfl (sa_cons (se_name (pv 3)) sa_nil)) (sa_cons (se_name (pv 2)) sa_nil))))) (sb_one (ss_ret (se_const pe_bl rfl))) sb_nil))))))))
    (sb_one (ss_ret (se_const pe_bl rfl))))
theorem lv (t : Tx K mg) (c : He.SaysD fa fn K) : ∀ n, Lv P w K mg base (2 * n) n := by
  obtain ⟨q0, F0⟩ := c.def_ 0 (d := d__wall) rfl
  have B0 : Binds K q0 P__wall [] := F0.bindsN fun _ _ _ _ _ _ us hl => match us, hl with | [_], _ => rfl
  obtain ⟨q1, F1⟩ := c.def_ 1 (d := d_is_word) rfl
  have B1 : Binds K q1 P_is_word [] := F1.bindsN fun _ _ _ _ _ _ us hl => match us, hl with | [_], _ => rfl
  obtain ⟨q2, F2⟩ := c.def_ 2 (d := d_is_tuple) rfl
  have B2 : Binds K q2 P_is_tuple [] := F2.bindsN fun _ _ _ _ _ _ us hl => match us, hl with | [_, _, _], _ => rfl
  obtain ⟨q3, F3⟩ := c.def_ 3 (d := d_is_make) rfl
  have B3 : Binds K q3 P_is_make [] := F3.bindsN fun _ _ _ _ _ _ us hl => match us, hl with | [_], _ => rfl
  obtain ⟨q4, F4⟩ := c.def_ 4 (d := d_is_kind) rfl
  have B4 : Binds K q4 P_is_kind [] := F4.bindsN fun _ _ _ _ _ _ us hl => match us, hl with | [_], _ => rfl
  obtain ⟨q5, F5⟩ := c.def_ 5 (d := d_is_book) rfl
  have B5 : Binds K q5 P_is_book [] := F5.bindsN fun _ _ _ _ _ _ us hl => match us, hl with | [_], _ => rfl
  obtain ⟨q6, F6⟩ := c.def_ 6 (d := d_in_brackets) rfl
  have B6 : Binds K q6 P_in_brackets [] := F6.bindsN fun _ _ _ _ _ _ us hl => match us, hl with | [_, _], _ => rfl
  obtain ⟨q7, F7⟩ := c.def_ 7 (d := d_written_book) rfl
  have B7 : Binds K q7 P_written_book [] := F7.bindsN fun _ _ _ _ _ _ us hl => match us, hl with | [_], _ => rfl
  obtain ⟨q8, F8⟩ := c.def_ 8 (d := d_Strip___init__) rfl
  have B8 : Binds K q8 P_Strip___init__ [] := F8.bindsN fun _ _ _ _ _ _ us hl => match us, hl with | [_, _], _ => rfl
  obtain ⟨q9, F9⟩ := c.def_ 9 (d := d_Strip_is_through) rfl
  have B9 : Binds K q9 P_Strip_is_through [] := F9.bindsN fun _ _ _ _ _ _ us hl => match us, hl with | [_], _ => rfl
  obtain ⟨q10, F10⟩ := c.def_ 10 (d := d_Strip_meets) rfl
  have B10 : Binds K q10 P_Strip_meets [] := F10.bindsN fun _ _ _ _ _ _ us hl => match us, hl with | [_, _], _ => rfl
  obtain ⟨q11, F11⟩ := c.def_ 11 (d := d_Strip_passes) rfl
  have B11 : Binds K q11 P_Strip_passes [] := F11.bindsN fun _ _ _ _ _ _ us hl => match us, hl with | [_, _], _ => rfl
  obtain ⟨q12, F12⟩ := c.def_ 12 (d := d_Strip_must_pass) rfl
  have B12 : Binds K q12 P_Strip_must_pass [] := F12.bindsN fun _ _ _ _ _ _ us hl => match us, hl with | [_, _], _ => rfl
  obtain ⟨q13, F13⟩ := c.def_ 13 (d := d_Strip_stretch_of) rfl
  have B13 : Binds K q13 P_Strip_stretch_of [] := F13.bindsN fun _ _ _ _ _ _ us hl => match us, hl with | [_, _], _ => rfl
  obtain ⟨q14, F14⟩ := c.def_ 14 (d := d_Strip_number_next) rfl
  have B14 : Binds K q14 P_Strip_number_next [] := F14.bindsN fun _ _ _ _ _ _ us hl => match us, hl with | [_], _ => rfl
  obtain ⟨q15, F15⟩ := c.def_ 15 (d := d_Strip_ends_well) rfl
  have B15 : Binds K q15 P_Strip_ends_well [] := F15.bindsN fun _ _ _ _ _ _ us hl => match us, hl with | [_], _ => rfl
  obtain ⟨q16, F16⟩ := c.def_ 16 (d := d_words_read) rfl
  have B16 : Binds K q16 P_words_read [] := F16.bindsN fun _ _ _ _ _ _ us hl => match us, hl with | [_], _ => rfl
  obtain ⟨q17, F17⟩ := c.def_ 17 (d := d_kind_read) rfl
  have B17 : Binds K q17 P_kind_read [] := F17.bindsN fun _ _ _ _ _ _ us hl => match us, hl with | [_], _ => rfl
  obtain ⟨q18, F18⟩ := c.def_ 18 (d := d_strip_of) rfl
  have B18 : Binds K q18 P_strip_of [] := F18.bindsN fun _ _ _ _ _ _ us hl => match us, hl with | [_], _ => rfl
  obtain ⟨q19, F19⟩ := c.def_ 19 (d := d_read_book) rfl
  have B19 : Binds K q19 P_read_book [] := F19.bindsN fun _ _ _ _ _ _ us hl => match us, hl with | [_], _ => rfl
  obtain ⟨q20, F20⟩ := c.def_ 20 (d := d__law_cell) rfl
  have B20 : Binds K q20 P__law_cell [] := F20.bindsN fun _ _ _ _ _ _ us hl => match us, hl with | [_, _], _ => rfl
  obtain ⟨q21, F21⟩ := c.def_ 21 (d := d__law_dig) rfl
  have B21 : Binds K q21 P__law_dig [] := F21.bindsN fun _ _ _ _ _ _ us hl => match us, hl with | [_], _ => rfl
  obtain ⟨q22, F22⟩ := c.def_ 22 (d := d__law_next) rfl
  have B22 : Binds K q22 P__law_next [] := F22.bindsN fun _ _ _ _ _ _ us hl => match us, hl with | [_, _], _ => rfl
  obtain ⟨q23, F23⟩ := c.def_ 23 (d := d__law_words) rfl
  have B23 : Binds K q23 P__law_words [] := F23.bindsN fun _ _ _ _ _ _ us hl => match us, hl with | [_, _], _ => rfl
  obtain ⟨q24, F24⟩ := c.def_ 24 (d := d__law_volume) rfl
  have B24 : Binds K q24 P__law_volume [] := F24.bindsN fun _ _ _ _ _ _ us hl => match us, hl with | [_], _ => rfl
  obtain ⟨q25, F25⟩ := c.def_ 25 (d := d__law_alike) rfl
  have B25 : Binds K q25 P__law_alike [] := F25.bindsN fun _ _ _ _ _ _ us hl => match us, hl with | [_, _], _ => rfl
  obtain ⟨q26, F26⟩ := c.def_ 26 (d := d__law_bracketed) rfl
  have B26 : Binds K q26 P__law_bracketed [] := F26.bindsN fun _ _ _ _ _ _ us hl => match us, hl with | [_, _], _ => rfl
  obtain ⟨q27, F27⟩ := c.def_ 27 (d := d__law_book_text) rfl
  have B27 : Binds K q27 P__law_book_text [] := F27.bindsN fun _ _ _ _ _ _ us hl => match us, hl with | [_], _ => rfl
  obtain ⟨q28, F28⟩ := c.def_ 28 (d := d_law) rfl
  have B28 : Binds K q28 P_law [] := F28.bindsN fun _ _ _ _ _ _ us hl => match us, hl with | [_], _ => rfl
  intro n
  induction n with
  | zero => exact ⟨⟨⟨_, _, FnOk.zero, B0⟩, F0.kp⟩, ⟨⟨_, _, FnOk.zero, B1⟩, F1.kp⟩, ⟨⟨_, _, FnOk.zero, B2⟩, F2.kp⟩, ⟨⟨_, _, FnOk.zero, B3⟩, F3.kp⟩, ⟨⟨_, _, FnOk.zero, B4⟩, F4.kp⟩, ⟨⟨_, _, FnOk.zero, B5⟩, F5.kp⟩, ⟨⟨_, _, FnOk.zero, B6⟩, F6.kp⟩, ⟨⟨_, _, FnOk.zero, B7⟩, F7.kp⟩, ⟨⟨_, _, FnOk.zero, B8⟩, F8.kp⟩, ⟨⟨_, _, FnOk.zero, B9⟩, F9.kp⟩, ⟨⟨_, _, FnOk.zero, B10⟩, F10.kp⟩, ⟨⟨_, _, FnOk.zero, B11⟩, F11.kp⟩, ⟨⟨_, _, FnOk.zero, B12⟩, F12.kp⟩, ⟨⟨_, _, FnOk.zero, B13⟩, F13.kp⟩, ⟨⟨_, _, FnOk.zero, B14⟩, F14.kp⟩, ⟨⟨_, _, FnOk.zero, B15⟩, F15.kp⟩, ⟨⟨_, _, FnOk.zero, B16⟩, F16.kp⟩, ⟨⟨_, _, FnOk.zero, B17⟩, F17.kp⟩, ⟨⟨_, _, FnOk.zero, B18⟩, F18.kp⟩, ⟨⟨_, _, FnOk.zero, B19⟩, F19.kp⟩, ⟨⟨_, _, FnOk.zero, B20⟩, F20.kp⟩, ⟨⟨_, _, FnOk.zero, B21⟩, F21.kp⟩, ⟨⟨_, _, FnOk.zero, B22⟩, F22.kp⟩, ⟨⟨_, _, FnOk.zero, B23⟩, F23.kp⟩, ⟨⟨_, _, FnOk.zero, B24⟩, F24.kp⟩, ⟨⟨_, _, FnOk.zero, B25⟩, F25.kp⟩, ⟨⟨_, _, FnOk.zero, B26⟩, F26.kp⟩, ⟨⟨_, _, FnOk.zero, B27⟩, F27.kp⟩, ⟨⟨_, _, FnOk.zero, B28⟩, F28.kp⟩⟩
  | succ n L => exact ⟨⟨⟨_, _, FnOk.zero, B0⟩, F0.kp⟩, ⟨⟨_, _, o_is_word t L F1, B1⟩, F1.kp⟩, ⟨⟨_, _, o_is_tuple t L F2, B2⟩, F2.kp⟩, ⟨⟨_, _, o_is_make t L F3, B3⟩, F3.kp⟩, ⟨⟨_, _, o_is_kind t L F4, B4⟩, F4.kp⟩, ⟨⟨_, _, o_is_book t L F5, B5⟩, F5.kp⟩, ⟨⟨_, _, o_in_brackets t L F6, B6⟩, F6.kp⟩, ⟨⟨_, _, o_written_book t L F7, B7⟩, F7.kp⟩, ⟨⟨_, _, o_Strip___init__ t L F8, B8⟩, F8.kp⟩, ⟨⟨_, _, o_Strip_is_through t L F9, B9⟩, F9.kp⟩, ⟨⟨_, _, o_Strip_meets t L F10, B10⟩, F10.kp⟩, ⟨⟨_, _, o_Strip_passes t L F11, B11⟩, F11.kp⟩, ⟨⟨_, _, o_Strip_must_pass t L F12, B12⟩, F12.kp⟩, ⟨⟨_, _, o_Strip_stretch_of t L F13, B13⟩, F13.kp⟩, ⟨⟨_, _, o_Strip_number_next t L F14, B14⟩, F14.kp⟩, ⟨⟨_, _, o_Strip_ends_well t L F15, B15⟩, F15.kp⟩, ⟨⟨_, _, o_words_read t L F16, B16⟩, F16.kp⟩, ⟨⟨_, _, o_kind_read t L F17, B17⟩, F17.kp⟩, ⟨⟨_, _, o_strip_of t L F18, B18⟩, F18.kp⟩, ⟨⟨_, _, o_read_book t L F19, B19⟩, F19.kp⟩, ⟨⟨_, _, o__law_cell t L F20, B20⟩, F20.kp⟩, ⟨⟨_, _, o__law_dig t L F21, B21⟩, F21.kp⟩, ⟨⟨_, _, o__law_next t L F22, B22⟩, F22.kp⟩, ⟨⟨_, _, o__law_words t L F23, B23⟩, F23.kp⟩, ⟨⟨_, _, o__law_volume t L F24, B24⟩, F24.kp⟩, ⟨⟨_, _, o__law_alike t L F25, B25⟩, F25.kp⟩, ⟨⟨_, _, o__law_bracketed t L F26, B26⟩, F26.kp⟩, ⟨⟨_, _, o__law_book_text t L F27, B27⟩, F27.kp⟩, ⟨⟨_, _, o_law t L F28, B28⟩, F28.kp⟩⟩
end
theorem tx {K : PySem.W.Frag} {h : Heap} {mg : Str → Option Value} (X : K.In h) (G : h.Ns mainGlobals mg) (c : He.SaysD fa fn K) : Tx K mg where
  b_all := He.free_ok X G (c.fact 0 (f := .free "all"))
  b_bool := He.free_ok X G (c.fact 1 (f := .free "bool"))
  b_int := He.free_ok X G (c.fact 2 (f := .free "int"))
  b_isinstance := He.free_ok X G (c.fact 3 (f := .free "isinstance"))
  b_len := He.free_ok X G (c.fact 4 (f := .free "len"))
  b_max := He.free_ok X G (c.fact 5 (f := .free "max"))
  b_min := He.free_ok X G (c.fact 6 (f := .free "min"))
  b_range := He.free_ok X G (c.fact 7 (f := .free "range"))
  b_set := He.free_ok X G (c.fact 8 (f := .free "set"))
  b_str := He.free_ok X G (c.fact 9 (f := .free "str"))
  b_tuple := He.free_ok X G (c.fact 10 (f := .free "tuple"))
  b_zip := He.free_ok X G (c.fact 11 (f := .free "zip"))
  c_LETTERS_words := He.str_ok X G (c.fact 12 (f := .str "LETTERS_words" "abcdefghijklmnopqrstuvwxyz"))
  c_LONGEST := He.int_ok X G (c.fact 13 (f := .int "LONGEST" 8))
  c_NUM := He.str_ok X G (c.fact 14 (f := .str "NUM" "num"))
  c_MOST_KINDS := He.int_ok X G (c.fact 15 (f := .int "MOST_KINDS" 6))
  c_MOST_MAKES := He.int_ok X G (c.fact 16 (f := .int "MOST_MAKES" 6))
  c_MOST_FIELDS := He.int_ok X G (c.fact 17 (f := .int "MOST_FIELDS" 4))
  c_LETTERS_texts := He.str_ok X G (c.fact 18 (f := .str "LETTERS_texts" "abcdefghijklmnopqrstuvwxyz"))
  g__wall := He.glo_ok X G (c.fact 19 (f := .glo "_wall"))
  g_is_word := He.glo_ok X G (c.fact 20 (f := .glo "is_word"))
  g_is_tuple := He.glo_ok X G (c.fact 21 (f := .glo "is_tuple"))
  g_is_make := He.glo_ok X G (c.fact 22 (f := .glo "is_make"))
  g_is_kind := He.glo_ok X G (c.fact 23 (f := .glo "is_kind"))
  g_is_book := He.glo_ok X G (c.fact 24 (f := .glo "is_book"))
  g_in_brackets := He.glo_ok X G (c.fact 25 (f := .glo "in_brackets"))
  g_written_book := He.glo_ok X G (c.fact 26 (f := .glo "written_book"))
  me_Strip___init__ := He.meth_ok (c.fact 27 (f := .meth "Strip" "__init__"))
  me_Strip_is_through := He.meth_ok (c.fact 28 (f := .meth "Strip" "is_through"))
  me_Strip_meets := He.meth_ok (c.fact 29 (f := .meth "Strip" "meets"))
  me_Strip_passes := He.meth_ok (c.fact 30 (f := .meth "Strip" "passes"))
  me_Strip_must_pass := He.meth_ok (c.fact 31 (f := .meth "Strip" "must_pass"))
  me_Strip_stretch_of := He.meth_ok (c.fact 32 (f := .meth "Strip" "stretch_of"))
  me_Strip_number_next := He.meth_ok (c.fact 33 (f := .meth "Strip" "number_next"))
  me_Strip_ends_well := He.meth_ok (c.fact 34 (f := .meth "Strip" "ends_well"))
  g_words_read := He.glo_ok X G (c.fact 35 (f := .glo "words_read"))
  g_kind_read := He.glo_ok X G (c.fact 36 (f := .glo "kind_read"))
  g_strip_of := He.glo_ok X G (c.fact 37 (f := .glo "strip_of"))
  g_read_book := He.glo_ok X G (c.fact 38 (f := .glo "read_book"))
  g__law_cell := He.glo_ok X G (c.fact 39 (f := .glo "_law_cell"))
  g__law_dig := He.glo_ok X G (c.fact 40 (f := .glo "_law_dig"))
  g__law_next := He.glo_ok X G (c.fact 41 (f := .glo "_law_next"))
  g__law_words := He.glo_ok X G (c.fact 42 (f := .glo "_law_words"))
  g__law_volume := He.glo_ok X G (c.fact 43 (f := .glo "_law_volume"))
  g__law_alike := He.glo_ok X G (c.fact 44 (f := .glo "_law_alike"))
  g__law_bracketed := He.glo_ok X G (c.fact 45 (f := .glo "_law_bracketed"))
  g__law_book_text := He.glo_ok X G (c.fact 46 (f := .glo "_law_book_text"))
  g_law := He.glo_ok X G (c.fact 47 (f := .glo "law"))
  g_Strip := He.glo_ok X G (c.fact 48 (f := .glo "Strip"))
  cls_Strip := He.cls_ok (c.fact 49 (f := .cls "Strip"))
  mk_Strip := He.mkr_ok (c.fact 50 (f := .mkr "Strip"))
  na_Strip_signs := He.noat_ok (c.fact 51 (f := .noat "Strip" "signs"))
  na_Strip_spot := He.noat_ok (c.fact 52 (f := .noat "Strip" "spot"))
  g_CourtError := He.glo_ok X G (c.fact 53 (f := .glo "CourtError"))
  x_CourtError := (He.exc_ok (c.fact 54 (f := .exc "CourtError"))).1
  xk_CourtError := (He.exc_ok (c.fact 54 (f := .exc "CourtError"))).2.1
  xs_CourtError := (He.exc_ok (c.fact 54 (f := .exc "CourtError"))).2.2.1
  xt_CourtError := (He.exc_ok (c.fact 54 (f := .exc "CourtError"))).2.2.2
  g_NoText := He.glo_ok X G (c.fact 55 (f := .glo "NoText"))
  x_NoText := (He.exc_ok (c.fact 56 (f := .exc "NoText"))).1
  xk_NoText := (He.exc_ok (c.fact 56 (f := .exc "NoText"))).2.1
  xs_NoText := (He.exc_ok (c.fact 56 (f := .exc "NoText"))).2.2.1
  xt_NoText := (He.exc_ok (c.fact 56 (f := .exc "NoText"))).2.2.2
end Sc.Law

set_option Elab.async false
set_option linter.all false
set_option autoImplicit false
set_option maxRecDepth 100000
set_option maxHeartbeats 1000000
namespace Sc.Law
open PySem L2 Sc
local macro_rules | `(tactic| walk_at "ev") => `(tactic| simp (config := { decide := false }) only [fnRun, seqM, ifS, orT, andT, notT, andM, orM, notM, testM, viewB, view, M.bind, M.pure, M.stuck, nameM, constM, bltM, viewAll, consA, nilA, retM, opM, chainM, isiM, tyName, strMM, tupM, lstM, freezeAll, freeze, setM, exprM, callM, callF, prep, lend, backM, wbAll, Rt.rv, iosOf, Arg.sl, List.map_cons, List.map_nil, List.length_cons, List.length_nil, Nat.zero_add, Nat.reduceAdd, Nat.reduceSub, Nat.reduceLT, List.replicate_succ, List.replicate_zero, List.cons_append, List.nil_append, List.getElem?_cons_zero, List.getElem?_cons_succ, List.set_cons_zero, List.set_cons_succ, methM, isObj, fldM, dget, putFM, objAt, putD, slOf, mutM, lstAt, raiseM, skipM, O.toD, leF, ltF, gtF, geF, subF, iiF, if_true, if_false, Bool.false_eq_true, lenF, Bool.not_true, Bool.not_false, decide_true, decide_false, kit_str_str, kit_str_tuple, kit_str_int, kit_str_bool, kit_int_str, kit_int_int, kit_int_bool, kit_int_tuple, kit_bool_int, kit_bool_bool, kit_bool_tuple, kit_bool_str, kit_tuple_tuple, kit_tuple_str, kit_tuple_int, kit_tuple_bool, kit_none_tuple, kit_none_str, kit_none_int, kit_none_bool, kit_list_tuple, kit_list_str, kit_list_int, nameG, tupGn, consG, nilG, if_pos, Nat.lt_add_one, ixF, appendF, Option.map_some, allF, all_tt, boolsOf_true, wipeE, restE, lcS, forS, freeze, tupGn, extendF, yesT, intF, putLM, rng1M, addF_ll, addF_ii, addF_tt, tupleF, sliceM, intM, dOpt, eqOF_int, neOF_int, inOF, Bool.false_xor, Bool.true_xor, Bool.true_and, Bool.and_true, sq0, sq1, sq2, sq3, sq4, sq5, sq6, sz0, sz1, sz2, sz3, sz4, sz5, sz6, lenSetM])
local macro_rules | `(tactic| walk_at "evs") => `(tactic| simp (config := { decide := false }) only [fnRun, seqM, ifS, orT, andT, notT, andM, orM, notM, testM, viewB, view, M.bind, M.pure, M.stuck, nameM, constM, bltM, viewAll, consA, nilA, retM, opM, chainM, isiM, tyName, strMM, tupM, lstM, freezeAll, freeze, setM, exprM, callM, callF, prep, lend, backM, wbAll, Rt.rv, iosOf, Arg.sl, List.map_cons, List.map_nil, List.length_cons, List.length_nil, Nat.zero_add, Nat.reduceAdd, Nat.reduceSub, Nat.reduceLT, List.replicate_succ, List.replicate_zero, List.cons_append, List.nil_append, List.getElem?_cons_zero, List.getElem?_cons_succ, List.set_cons_zero, List.set_cons_succ, methM, isObj, fldM, dget, putFM, objAt, putD, slOf, mutM, lstAt, raiseM, skipM, O.toD, leF, ltF, gtF, geF, subF, iiF, if_true, if_false, Bool.false_eq_true, lenF, Bool.not_true, Bool.not_false, decide_true, decide_false, kit_str_str, kit_str_tuple, kit_str_int, kit_str_bool, kit_int_str, kit_int_int, kit_int_bool, kit_int_tuple, kit_bool_int, kit_bool_bool, kit_bool_tuple, kit_bool_str, kit_tuple_tuple, kit_tuple_str, kit_tuple_int, kit_tuple_bool, kit_none_tuple, kit_none_str, kit_none_int, kit_none_bool, kit_list_tuple, kit_list_str, kit_list_int, nameG, tupGn, consG, nilG, if_pos, Nat.lt_add_one, ixF, appendF, Option.map_some, allF, all_tt, boolsOf_true, wipeE, restE, lcS, forS, freeze, tupGn, extendF, yesT, intF, putLM, rng1M, addF_ll, addF_ii, addF_tt, tupleF, sliceM, intM, dOpt, eqOF_int, neOF_int, inOF, Bool.false_xor, Bool.true_xor, Bool.true_and, Bool.and_true, sq0, sq1, sq2, sq3, sq4, sq5, sq6, sz0, sz1, sz2, sz3, sz4, sz5, sz6, lenSetM, *])
theorem t_is_tuple (n : Nat) (ds : List D) (a b : Int) : T (n + 1) .is_tuple [.fz (.tup ds), .fz (.int a), .fz (.int b)] = .ret (.fz (.bl (decide (a ≤ ds.length) && decide ((ds.length : Int) ≤ b)))) [.fz (.tup ds), .fz (.int a), .fz (.int b)] := by
  show fnRun 3 (b_is_tuple (T n)) _ = _
  unfold b_is_tuple
  walk_at "ev"
  cases h : decide (a ≤ (ds.length : Int)) <;> simp [iosOf]
/-- a word of the law -/
structure Wd (l : List Nat) : Prop where
  one : 1 ≤ l.length
  eight : l.length ≤ 8
  az : ∀ c ∈ l, 97 ≤ c ∧ c ≤ 122
def azL : List Nat := [97, 98, 99, 100, 101, 102, 103, 104, 105, 106, 107, 108, 109, 110, 111, 112, 113, 114, 115, 116, 117, 118, 119, 120, 121, 122]
theorem az_lit : ("abcdefghijklmnopqrstuvwxyz" : Str) = S azL := by decide +kernel
theorem az_mem {c : Nat} : c ∈ azL ↔ 97 ≤ c ∧ c ≤ 122 := by
  constructor
  · intro h; simp [azL] at h; omega
  · intro h
    have : c = 97 ∨ c = 98 ∨ c = 99 ∨ c = 100 ∨ c = 101 ∨ c = 102 ∨ c = 103 ∨ c = 104 ∨ c = 105 ∨ c = 106 ∨ c = 107 ∨ c = 108 ∨ c = 109 ∨ c = 110 ∨ c = 111 ∨ c = 112 ∨ c = 113 ∨ c = 114 ∨ c = 115 ∨ c = 116 ∨ c = 117 ∨ c = 118 ∨ c = 119 ∨ c = 120 ∨ c = 121 ∨ c = 122 := by omega
    simp [azL]; omega
theorem sl8 {l : List Nat} (h : l.length ≤ 10000) : (S l).length ≤ sizeLine := by rw [S_len]; unfold sizeLine; omega
theorem signs_S (l : List Nat) : signsD (S l) = l.map fun c => .str (S [c]) := by unfold signsD; rw [S_cps]; rfl
theorem inF_sign {c : Nat} {l : List Nat} : inF (.str (S [c])) (.str (S l)) = some (decide (c ∈ l)) := by
  show (match (S [c]).cps.toList with | [s] => some (decide (s ∈ (S l).cps.toList)) | _ => none) = _
  rw [S_cps, S_cps]
theorem c_is_word (n : Nat) (l : List Nat) (w : Wd l) : c_is_word_1 (T n) [.fz (.str (S l)), .un] = .ok (.own (.lst (l.map fun _ => .bl true))) [.fz (.str (S l)), .un] := by
  unfold c_is_word_1
  have h8 := w.eight
  have hl := lcLoop_map (vs := [1]) (g := nameG 1) (T := yesT) (A := opM (inOF false) (nameM 1) (constM (.str "abcdefghijklmnopqrstuvwxyz"))) (fun _ => .bl true) (signsD (S l)) [] [.fz (.str (S l)), .un] (by simp [signs_S]; unfold sizeLine; omega) fun d hd => by
    rw [signs_S] at hd
    obtain ⟨c, hc, rfl⟩ := List.mem_map.mp hd
    have e : inF (.str (S [c])) (.str (S azL)) = some true := by rw [inF_sign, decide_eq_true (az_mem.mpr (w.az c hc))]
    refine ⟨[.fz (.str (S l)), .fz (.str (S [c]))], [.fz (.str (S l)), .fz (.str (S [c]))], .fz (.bl true), [.fz (.str (S l)), .fz (.str (S [c]))], [.fz (.str (S l)), .fz (.str (S [c]))], rfl, rfl, ?_, rfl, rfl⟩
    rw [az_lit]
    walk_at "ev"
    simp [inOF, e]
  refine (lcM_eq (I := iterM (nameM 0)) (ds := signsD (S l)) (e1 := [.fz (.str (S l)), .un]) rfl rfl hl).trans ?_
  simp [signs_S, restE]
theorem t_is_word (n : Nat) (l : List Nat) (w : Wd l) : T (n + 1) .is_word [.fz (.str (S l))] = .ret (.fz (.bl true)) [.fz (.str (S l))] := by
  show fnRun 2 (b_is_word (T n)) _ = _
  unfold b_is_word
  have hz : ((S l).length ≤ sizeLine) = True := eq_true (sl8 (by have := w.eight; omega))
  have h1 : ((1 : Int) ≤ ((S l).length : Int)) = True := eq_true (by have := w.one; rw [S_len]; omega)
  have h8 : (((S l).length : Int) ≤ 8) = True := eq_true (by have := w.eight; rw [S_len]; omega)
  have hc := c_is_word n l w
  walk_at "evs"
end Sc.Law

set_option Elab.async false
set_option linter.all false
set_option autoImplicit false
set_option maxRecDepth 100000
set_option maxHeartbeats 2000000
namespace Sc.Law
open PySem L2 Sc
local macro_rules | `(tactic| walk_at "ev") => `(tactic| simp (config := { decide := false }) only [fnRun, seqM, ifS, orT, andT, notT, andM, orM, notM, testM, viewB, view, M.bind, M.pure, M.stuck, nameM, constM, bltM, viewAll, consA, nilA, retM, opM, chainM, isiM, tyName, strMM, tupM, lstM, freezeAll, freeze, setM, exprM, callM, callF, prep, lend, backM, wbAll, Rt.rv, iosOf, Arg.sl, List.map_cons, List.map_nil, List.length_cons, List.length_nil, Nat.zero_add, Nat.reduceAdd, Nat.reduceSub, Nat.reduceLT, List.replicate_succ, List.replicate_zero, List.cons_append, List.nil_append, List.getElem?_cons_zero, List.getElem?_cons_succ, List.set_cons_zero, List.set_cons_succ, methM, isObj, fldM, dget, putFM, objAt, putD, slOf, mutM, lstAt, raiseM, skipM, O.toD, leF, ltF, gtF, geF, subF, iiF, if_true, if_false, Bool.false_eq_true, lenF, Bool.not_true, Bool.not_false, decide_true, decide_false, kit_str_str, kit_str_tuple, kit_str_int, kit_str_bool, kit_int_str, kit_int_int, kit_int_bool, kit_int_tuple, kit_bool_int, kit_bool_bool, kit_bool_tuple, kit_bool_str, kit_tuple_tuple, kit_tuple_str, kit_tuple_int, kit_tuple_bool, kit_none_tuple, kit_none_str, kit_none_int, kit_none_bool, kit_list_tuple, kit_list_str, kit_list_int, nameG, tupGn, consG, nilG, if_pos, Nat.lt_add_one, ixF, appendF, Option.map_some, allF, all_tt, boolsOf_true, wipeE, restE, lcS, forS, freeze, tupGn, extendF, yesT, intF, putLM, rng1M, addF_ll, addF_ii, addF_tt, tupleF, sliceM, intM, dOpt, eqOF_int, neOF_int, inOF, Bool.false_xor, Bool.true_xor, Bool.true_and, Bool.and_true, sq0, sq1, sq2, sq3, sq4, sq5, sq6, sz0, sz1, sz2, sz3, sz4, sz5, sz6, lenSetM])
local macro_rules | `(tactic| walk_at "evs") => `(tactic| simp (config := { decide := false }) only [fnRun, seqM, ifS, orT, andT, notT, andM, orM, notM, testM, viewB, view, M.bind, M.pure, M.stuck, nameM, constM, bltM, viewAll, consA, nilA, retM, opM, chainM, isiM, tyName, strMM, tupM, lstM, freezeAll, freeze, setM, exprM, callM, callF, prep, lend, backM, wbAll, Rt.rv, iosOf, Arg.sl, List.map_cons, List.map_nil, List.length_cons, List.length_nil, Nat.zero_add, Nat.reduceAdd, Nat.reduceSub, Nat.reduceLT, List.replicate_succ, List.replicate_zero, List.cons_append, List.nil_append, List.getElem?_cons_zero, List.getElem?_cons_succ, List.set_cons_zero, List.set_cons_succ, methM, isObj, fldM, dget, putFM, objAt, putD, slOf, mutM, lstAt, raiseM, skipM, O.toD, leF, ltF, gtF, geF, subF, iiF, if_true, if_false, Bool.false_eq_true, lenF, Bool.not_true, Bool.not_false, decide_true, decide_false, kit_str_str, kit_str_tuple, kit_str_int, kit_str_bool, kit_int_str, kit_int_int, kit_int_bool, kit_int_tuple, kit_bool_int, kit_bool_bool, kit_bool_tuple, kit_bool_str, kit_tuple_tuple, kit_tuple_str, kit_tuple_int, kit_tuple_bool, kit_none_tuple, kit_none_str, kit_none_int, kit_none_bool, kit_list_tuple, kit_list_str, kit_list_int, nameG, tupGn, consG, nilG, if_pos, Nat.lt_add_one, ixF, appendF, Option.map_some, allF, all_tt, boolsOf_true, wipeE, restE, lcS, forS, freeze, tupGn, extendF, yesT, intF, putLM, rng1M, addF_ll, addF_ii, addF_tt, tupleF, sliceM, intM, dOpt, eqOF_int, neOF_int, inOF, Bool.false_xor, Bool.true_xor, Bool.true_and, Bool.and_true, sq0, sq1, sq2, sq3, sq4, sq5, sq6, sz0, sz1, sz2, sz3, sz4, sz5, sz6, lenSetM, *])
/-! ### books -/
abbrev Mk0 := List Nat × List (List Nat)
abbrev Kd := List Nat × List Mk0
abbrev Book := List Kd
def dStr (l : List Nat) : D := .str (S l)
def dMake (m : Mk0) : D := .tup [.str (S m.1), .tup (m.2.map dStr)]
def dKind (k : Kd) : D := .tup [.str (S k.1), .tup (k.2.map dMake)]
def dBook (b : Book) : D := .tup (b.map dKind)
def numL : List Nat := [110, 117, 109]
theorem num_lit : ("num" : Str) = S numL := by decide +kernel
def makesB (b : Book) : List Mk0 := b.flatMap (·.2)
structure Bk (b : Book) : Prop where
  n1 : 1 ≤ b.length
  n6 : b.length ≤ 6
  kw : ∀ k ∈ b, Wd k.1
  m1 : ∀ k ∈ b, 1 ≤ k.2.length
  m6 : ∀ k ∈ b, k.2.length ≤ 6
  mw : ∀ k ∈ b, ∀ m ∈ k.2, Wd m.1
  f4 : ∀ k ∈ b, ∀ m ∈ k.2, m.2.length ≤ 4
  fk : ∀ k ∈ b, ∀ m ∈ k.2, ∀ f ∈ m.2, f ∈ numL :: b.map (·.1)
  kn : (numL :: b.map (·.1)).Nodup
  mn : ((makesB b).map (·.1)).Nodup
theorem t_is_make (n : Nat) (m : Mk0) (w : Wd m.1) (h4 : m.2.length ≤ 4) : T (n + 2) .is_make [.fz (dMake m)] = .ret (.fz (.bl true)) [.fz (dMake m)] := by
  show fnRun 1 (b_is_make (T (n + 1))) _ = _
  unfold b_is_make dMake
  have h1 := t_is_word n m.1 w
  have h2 := t_is_tuple n [.str (S m.1), .tup (m.2.map dStr)] 2 2
  have h3 := t_is_tuple n (m.2.map dStr) 0 4
  have e2 : (decide ((2 : Int) ≤ (([D.str (S m.1), D.tup (m.2.map dStr)].length : Nat) : Int)) && decide ((([D.str (S m.1), D.tup (m.2.map dStr)].length : Nat) : Int) ≤ 2)) = true := rfl
  have e3 : (decide ((0 : Int) ≤ (((m.2.map dStr).length : Nat) : Int)) && decide ((((m.2.map dStr).length : Nat) : Int) ≤ 4)) = true := by simp; omega
  rw [e2] at h2
  rw [e3] at h3
  have a0 : atI [D.str (S m.1), D.tup (m.2.map dStr)] 0 = some (.str (S m.1)) := rfl
  have a1 : atI [D.str (S m.1), D.tup (m.2.map dStr)] 1 = some (.tup (m.2.map dStr)) := rfl
  clear e2 e3 w h4
  walk_at "evs"
theorem c_is_kind (n : Nat) (k : Kd) (w : ∀ m ∈ k.2, Wd m.1 ∧ m.2.length ≤ 4) (h6 : k.2.length ≤ 6) : c_is_kind_1 (T (n + 2)) [.fz (dKind k), .un] = .ok (.own (.lst (k.2.map fun _ => .bl true))) [.fz (dKind k), .un] := by
  unfold c_is_kind_1
  have hl := lcLoop_map (vs := [1]) (g := nameG 1) (T := yesT) (A := callM [false] (T (n + 2) .is_make) (consA (nameM 1) nilA)) (fun _ => .bl true) (k.2.map dMake) [] [.fz (dKind k), .un] (by simp; unfold sizeLine; omega) fun d hd => by
    obtain ⟨m, hm, rfl⟩ := List.mem_map.mp hd
    have h := t_is_make n m (w m hm).1 (w m hm).2
    refine ⟨[.fz (dKind k), .fz (dMake m)], [.fz (dKind k), .fz (dMake m)], .fz (.bl true), [.fz (dKind k), .fz (dMake m)], [.fz (dKind k), .fz (dMake m)], rfl, rfl, ?_, rfl, rfl⟩
    clear h6 w hd hm
    walk_at "evs"
  refine (lcM_eq (I := iterM (opM ixF (nameM 0) (constM (.int 1)))) (ds := k.2.map dMake) (e1 := [.fz (dKind k), .un]) rfl rfl hl).trans ?_
  simp [restE]
theorem t_is_kind (n : Nat) (k : Kd) (kw : Wd k.1) (w : ∀ m ∈ k.2, Wd m.1 ∧ m.2.length ≤ 4) (h1 : 1 ≤ k.2.length) (h6 : k.2.length ≤ 6) : T (n + 3) .is_kind [.fz (dKind k)] = .ret (.fz (.bl true)) [.fz (dKind k)] := by
  show fnRun 2 (b_is_kind (T (n + 2))) _ = _
  unfold b_is_kind
  have hc := c_is_kind n k w h6
  have w1 := t_is_word (n + 1) k.1 kw
  have h2 := t_is_tuple (n + 1) [.str (S k.1), .tup (k.2.map dMake)] 2 2
  have h3 := t_is_tuple (n + 1) (k.2.map dMake) 1 6
  have e2 : (decide ((2 : Int) ≤ (([D.str (S k.1), D.tup (k.2.map dMake)].length : Nat) : Int)) && decide ((([D.str (S k.1), D.tup (k.2.map dMake)].length : Nat) : Int) ≤ 2)) = true := rfl
  have e3 : (decide ((1 : Int) ≤ (((k.2.map dMake).length : Nat) : Int)) && decide ((((k.2.map dMake).length : Nat) : Int) ≤ 6)) = true := by simp; omega
  rw [e2] at h2
  rw [e3] at h3
  have a0 : atI [D.str (S k.1), D.tup (k.2.map dMake)] 0 = some (.str (S k.1)) := rfl
  have a1 : atI [D.str (S k.1), D.tup (k.2.map dMake)] 1 = some (.tup (k.2.map dMake)) := rfl
  have hc' : c_is_kind_1 (T (n + 2)) [.fz (.tup [.str (S k.1), .tup (k.2.map dMake)]), .un] = .ok (.own (.lst (k.2.map fun _ => .bl true))) [.fz (.tup [.str (S k.1), .tup (k.2.map dMake)]), .un] := hc
  unfold dKind
  clear e2 e3 w h6 h1 kw hc
  walk_at "evs"
end Sc.Law

set_option Elab.async false
set_option linter.all false
set_option autoImplicit false
set_option maxRecDepth 100000
set_option maxHeartbeats 2000000
namespace Sc.Law
open PySem L2 Sc
local macro_rules | `(tactic| walk_at "ev") => `(tactic| simp (config := { decide := false }) only [fnRun, seqM, ifS, orT, andT, notT, andM, orM, notM, testM, viewB, view, M.bind, M.pure, M.stuck, nameM, constM, bltM, viewAll, consA, nilA, retM, opM, chainM, isiM, tyName, strMM, tupM, lstM, freezeAll, freeze, setM, exprM, callM, callF, prep, lend, backM, wbAll, Rt.rv, iosOf, Arg.sl, List.map_cons, List.map_nil, List.length_cons, List.length_nil, Nat.zero_add, Nat.reduceAdd, Nat.reduceSub, Nat.reduceLT, List.replicate_succ, List.replicate_zero, List.cons_append, List.nil_append, List.getElem?_cons_zero, List.getElem?_cons_succ, List.set_cons_zero, List.set_cons_succ, methM, isObj, fldM, dget, putFM, objAt, putD, slOf, mutM, lstAt, raiseM, skipM, O.toD, leF, ltF, gtF, geF, subF, iiF, if_true, if_false, Bool.false_eq_true, lenF, Bool.not_true, Bool.not_false, decide_true, decide_false, kit_str_str, kit_str_tuple, kit_str_int, kit_str_bool, kit_int_str, kit_int_int, kit_int_bool, kit_int_tuple, kit_bool_int, kit_bool_bool, kit_bool_tuple, kit_bool_str, kit_tuple_tuple, kit_tuple_str, kit_tuple_int, kit_tuple_bool, kit_none_tuple, kit_none_str, kit_none_int, kit_none_bool, kit_list_tuple, kit_list_str, kit_list_int, nameG, tupGn, consG, nilG, if_pos, Nat.lt_add_one, ixF, appendF, Option.map_some, allF, all_tt, boolsOf_true, wipeE, restE, lcS, forS, freeze, tupGn, extendF, yesT, intF, putLM, rng1M, addF_ll, addF_ii, addF_tt, tupleF, sliceM, intM, dOpt, eqOF_int, neOF_int, inOF, Bool.false_xor, Bool.true_xor, Bool.true_and, Bool.and_true, sq0, sq1, sq2, sq3, sq4, sq5, sq6, sz0, sz1, sz2, sz3, sz4, sz5, sz6, lenSetM])
local macro_rules | `(tactic| walk_at "evs") => `(tactic| simp (config := { decide := false }) only [fnRun, seqM, ifS, orT, andT, notT, andM, orM, notM, testM, viewB, view, M.bind, M.pure, M.stuck, nameM, constM, bltM, viewAll, consA, nilA, retM, opM, chainM, isiM, tyName, strMM, tupM, lstM, freezeAll, freeze, setM, exprM, callM, callF, prep, lend, backM, wbAll, Rt.rv, iosOf, Arg.sl, List.map_cons, List.map_nil, List.length_cons, List.length_nil, Nat.zero_add, Nat.reduceAdd, Nat.reduceSub, Nat.reduceLT, List.replicate_succ, List.replicate_zero, List.cons_append, List.nil_append, List.getElem?_cons_zero, List.getElem?_cons_succ, List.set_cons_zero, List.set_cons_succ, methM, isObj, fldM, dget, putFM, objAt, putD, slOf, mutM, lstAt, raiseM, skipM, O.toD, leF, ltF, gtF, geF, subF, iiF, if_true, if_false, Bool.false_eq_true, lenF, Bool.not_true, Bool.not_false, decide_true, decide_false, kit_str_str, kit_str_tuple, kit_str_int, kit_str_bool, kit_int_str, kit_int_int, kit_int_bool, kit_int_tuple, kit_bool_int, kit_bool_bool, kit_bool_tuple, kit_bool_str, kit_tuple_tuple, kit_tuple_str, kit_tuple_int, kit_tuple_bool, kit_none_tuple, kit_none_str, kit_none_int, kit_none_bool, kit_list_tuple, kit_list_str, kit_list_int, nameG, tupGn, consG, nilG, if_pos, Nat.lt_add_one, ixF, appendF, Option.map_some, allF, all_tt, boolsOf_true, wipeE, restE, lcS, forS, freeze, tupGn, extendF, yesT, intF, putLM, rng1M, addF_ll, addF_ii, addF_tt, tupleF, sliceM, intM, dOpt, eqOF_int, neOF_int, inOF, Bool.false_xor, Bool.true_xor, Bool.true_and, Bool.and_true, sq0, sq1, sq2, sq3, sq4, sq5, sq6, sz0, sz1, sz2, sz3, sz4, sz5, sz6, lenSetM, *])
def makesD (b : Book) : List D := (makesB b).map fun m => .str (S m.1)
def fieldsD (b : Book) : List D := (makesB b).flatMap fun m => m.2.map dStr
def namesD (b : Book) : List D := .str (S numL) :: b.map fun k => .str (S k.1)
theorem makes_le {b : Book} (h : b.length ≤ 6) (h6 : ∀ k ∈ b, k.2.length ≤ 6) : (makesB b).length ≤ b.length * 6 := by
  unfold makesB
  clear h
  induction b with
  | nil => simp
  | cons k b ih =>
    have := ih fun k' hk => h6 k' (by simp [hk])
    have h1 := h6 k (by simp)
    simp only [List.flatMap_cons, List.length_append, List.length_cons]
    omega
theorem flat4 {α β : Type} (l : List α) (f : α → List β) (h : ∀ m ∈ l, (f m).length ≤ 4) : (l.flatMap f).length ≤ l.length * 4 := by
  induction l with
  | nil => simp
  | cons k b ih =>
    have := ih fun k' hk => h k' (by simp [hk])
    have h1 := h k (by simp)
    simp only [List.flatMap_cons, List.length_append, List.length_cons]
    omega
theorem mem_makes {b : Book} {k : Kd} {m : Mk0} (hk : k ∈ b) (hm : m ∈ k.2) : m ∈ makesB b := List.mem_flatMap.mpr ⟨k, hk, hm⟩
variable {b : Book}
theorem Bk.f4' (B : Bk b) : ∀ m ∈ makesB b, m.2.length ≤ 4 := fun m hm => by
  obtain ⟨k, hk, hm⟩ := List.mem_flatMap.mp hm
  exact B.f4 k hk m hm
theorem c_is_book_1' (n : Nat) (B : Bk b) : c_is_book_1 (T (n + 3)) [.fz (dBook b), .un, .un, .un, .un, .un, .un, .un, .un, .un] = .ok (.own (.lst (b.map fun _ => .bl true))) [.fz (dBook b), .un, .un, .un, .un, .un, .un, .un, .un, .un] := by
  unfold c_is_book_1
  refine lcM_map dKind (fun _ => .bl true) b rfl rfl (by have := B.n6; unfold sizeLine; omega) (fun k hk => ?_) rfl
  have h := t_is_kind n k (B.kw k hk) (fun m hm => ⟨B.mw k hk m hm, B.f4 k hk m hm⟩) (B.m1 k hk) (B.m6 k hk)
  refine ⟨[.fz (dBook b), .un, .un, .un, .un, .un, .un, .un, .un, .fz (dKind k)], ?_, rfl⟩
  clear hk B
  walk_at "evs"
theorem c_is_book_2' (n : Nat) (B : Bk b) : c_is_book_2 (T (n + 3)) [.fz (dBook b), .un, .un, .un, .un, .un, .un, .un, .un, .un] = .ok (.own (.lst (b.map fun k => .str (S k.1)))) [.fz (dBook b), .un, .un, .un, .un, .un, .un, .un, .un, .un] := by
  unfold c_is_book_2
  refine lcM_map dKind (fun k => .str (S k.1)) b rfl rfl (by have := B.n6; unfold sizeLine; omega) (fun k hk => ?_) rfl
  exact ⟨_, rfl, rfl⟩
def bkEv (b : Book) (ms fs : List D) (s : List Sl) : Ev := .fz (dBook b) :: .own (.lst (namesD b)) :: .own (.lst ms) :: .own (.lst fs) :: s
theorem l_is_book_1' (n : Nat) (k : Kd) (h6 : k.2.length ≤ 6) (h4 : ∀ m ∈ k.2, m.2.length ≤ 4) (ms fs : List D) (hm : ms.length ≤ 100) (hf : fs.length ≤ 1000) (s4 s6 s7 : Sl) :
    ∃ s6' s7', l_is_book_1 (T n) (bkEv b ms fs [s4, .fz (.tup (k.2.map dMake)), s6, s7, .un, .un]) = .ok .nx (bkEv b (ms ++ k.2.map fun m => .str (S m.1)) (fs ++ k.2.flatMap fun m => m.2.map dStr) [s4, .fz (.tup (k.2.map dMake)), s6', s7', .un, .un]) := by
  unfold l_is_book_1
  obtain ⟨e', h1, s6', s7', rfl⟩ := forM_all (g := tupGn 2 (consG (nameG 6) (consG (nameG 7) nilG))) (b := seqM (exprM (mutM appendF 2 (consA (nameM 6) nilA))) (exprM (mutM extendF 3 (consA (nameM 7) nilA)))) (I := iterM (nameM 5)) dMake
    (fun p e => ∃ s6' s7', e = bkEv b (ms ++ p.map fun m => .str (S m.1)) (fs ++ p.flatMap fun m => m.2.map dStr) [s4, .fz (.tup (k.2.map dMake)), s6', s7', .un, .un]) k.2 (bkEv b ms fs [s4, .fz (.tup (k.2.map dMake)), s6, s7, .un, .un]) rfl ⟨s6, s7, by simp⟩ (fun p x q e hx ⟨a, c, he⟩ => by
      subst he
      have hl := congrArg List.length hx
      simp only [List.length_append, List.length_cons] at hl
      have h4x := h4 x (by rw [hx]; simp)
      have hp : (p.flatMap fun m => m.2.map dStr).length ≤ p.length * 4 := flat4 _ _ fun m hm => by simpa using h4 m (by rw [hx]; simp [hm])
      have z1 : ((ms ++ p.map fun m => D.str (S m.1)).length < sizeLine) = True := eq_true (by simp; unfold sizeLine; omega)
      have z2 : ((fs ++ p.flatMap fun m => m.2.map dStr).length + (x.2.map dStr).length ≤ sizeLine) = True := eq_true (by simp only [List.length_append, List.length_map]; unfold sizeLine; omega)
      refine ⟨bkEv b (ms ++ (p ++ [x]).map fun m => .str (S m.1)) (fs ++ (p ++ [x]).flatMap fun m => m.2.map dStr) [s4, .fz (.tup (k.2.map dMake)), .fz (.str (S x.1)), .fz (.tup (x.2.map dStr)), .un, .un], ?_, .fz (.str (S x.1)), .fz (.tup (x.2.map dStr)), rfl⟩
      clear hl h4x hp hx hm hf h4 h6
      simp only [List.map_append, List.flatMap_append, List.map_cons, List.map_nil, List.flatMap_cons, List.flatMap_nil, List.append_nil, ← List.append_assoc]
      unfold bkEv dMake
      walk_at "evs")
  exact ⟨s6', s7', h1⟩
theorem l_is_book_2' (n : Nat) (B : Bk b) : ∃ s4 s5 s6 s7, l_is_book_2 (T n) (bkEv b [] [] [.un, .un, .un, .un, .un, .un]) = .ok .nx (bkEv b (makesD b) (fieldsD b) [s4, s5, s6, s7, .un, .un]) := by
  unfold l_is_book_2
  obtain ⟨e', h1, s4, s5, s6, s7, rfl⟩ := forM_all (g := tupGn 2 (consG (nameG 4) (consG (nameG 5) nilG))) (b := l_is_book_1 (T n)) (I := iterM (nameM 0)) dKind
    (fun p e => ∃ s4 s5 s6 s7, e = bkEv b (makesD p) (fieldsD p) [s4, s5, s6, s7, .un, .un]) b (bkEv b [] [] [.un, .un, .un, .un, .un, .un]) rfl ⟨.un, .un, .un, .un, rfl⟩ (fun p x q e hx ⟨a, c, s6, s7, he⟩ => by
      subst he
      have hl := congrArg List.length hx
      have b6 := B.n6
      simp only [List.length_append, List.length_cons] at hl
      have hmem : ∀ k ∈ p, k ∈ b := fun k hk => by rw [hx]; simp [hk]
      have hxb : x ∈ b := by rw [hx]; simp
      have hm : (makesB p).length ≤ p.length * 6 := makes_le (by omega) fun k hk => B.m6 k (hmem k hk)
      have hf : (fieldsD p).length ≤ (makesB p).length * 4 := flat4 _ _ fun m hm => by
        obtain ⟨k, hk, hm⟩ := List.mem_flatMap.mp hm
        simpa using B.f4 k (hmem k hk) m hm
      have hm' : (makesD p).length = (makesB p).length := by simp [makesD]
      obtain ⟨s6', s7', h⟩ := l_is_book_1' (b := b) n x (B.m6 x hxb) (B.f4 x hxb) (makesD p) (fieldsD p) (by omega) (by omega) (.fz (.str (S x.1))) s6 s7
      refine ⟨bkEv b (makesD (p ++ [x])) (fieldsD (p ++ [x])) [.fz (.str (S x.1)), .fz (.tup (x.2.map dMake)), s6', s7', .un, .un], ?_, _, _, _, _, rfl⟩
      have e1 : makesD (p ++ [x]) = makesD p ++ x.2.map fun m => .str (S m.1) := by simp [makesD, makesB]
      have e2 : fieldsD (p ++ [x]) = fieldsD p ++ x.2.flatMap fun m => m.2.map dStr := by simp [fieldsD, makesB]
      rw [e1, e2]
      unfold bkEv at h ⊢
      unfold dKind
      clear e1 e2 hm' hf hm hxb hmem hl b6 hx B
      walk_at "evs")
  exact ⟨s4, s5, s6, s7, h1⟩
theorem inF_names {l : List Nat} {b : Book} (h : l ∈ numL :: b.map (·.1)) : inF (.str (S l)) (.lst (namesD b)) = some true := by
  have e : namesD b = (numL :: b.map (·.1)).map fun l => .str (S l) := by simp [namesD]
  rw [e]
  generalize numL :: b.map (·.1) = ls at h ⊢
  have f : (ls.map fun l => D.str (S l)).all flatD = true := by simp [flatD]
  have g : flatD (.str (S l)) = true := rfl
  unfold inF
  simp only [f, g, Bool.and_true, if_true]
  congr 1
  rw [List.any_map, List.any_eq_true]
  exact ⟨l, h, by simp [eqD1]⟩
theorem mem_fields {b : Book} {d : D} (B : Bk b) (h : d ∈ fieldsD b) : ∃ l, d = .str (S l) ∧ l ∈ numL :: b.map (·.1) := by
  obtain ⟨m, hm, hd⟩ := List.mem_flatMap.mp h
  obtain ⟨l, hl, rfl⟩ := List.mem_map.mp hd
  obtain ⟨k, hk, hm⟩ := List.mem_flatMap.mp hm
  exact ⟨l, rfl, B.fk k hk m hm l hl⟩
theorem fields_le (B : Bk b) : (fieldsD b).length ≤ 144 := by
  have h1 := makes_le B.n6 B.m6
  have h2 := flat4 (makesB b) (fun m => m.2.map dStr) fun m hm => by simpa using B.f4' m hm
  have := B.n6
  unfold fieldsD
  omega
theorem c_is_book_3' (n : Nat) (B : Bk b) (s4 s5 s6 s7 : Sl) : c_is_book_3 (T n) (bkEv b (makesD b) (fieldsD b) [s4, s5, s6, s7, .un, .un]) = .ok (.own (.lst ((fieldsD b).map fun _ => .bl true))) [.fz (dBook b), .own (.lst (namesD b)), .own (.lst (makesD b)), .fz (.lst (fieldsD b)), s4, s5, s6, s7, .un, .un] := by
  unfold c_is_book_3
  refine lcM_map id (fun _ => .bl true) (fieldsD b) (e1 := [.fz (dBook b), .own (.lst (namesD b)), .own (.lst (makesD b)), .fz (.lst (fieldsD b)), s4, s5, s6, s7, .un, .un]) (by rw [List.map_id]; unfold iterM bkEv; walk_at "ev") rfl (by have := fields_le B; unfold sizeLine; omega) (fun d hd => ?_) rfl
  obtain ⟨l, rfl, hl⟩ := mem_fields B hd
  have h := inF_names hl
  refine ⟨[.fz (dBook b), .own (.lst (namesD b)), .own (.lst (makesD b)), .fz (.lst (fieldsD b)), s4, s5, s6, s7, .fz (.str (S l)), .un], ?_, rfl⟩
  clear hd hl B
  simp only [id, inOF]
  walk_at "ev"
  simp only [O.toD, h, inOF]
  rfl
theorem strsOf_S : ∀ ls : List (List Nat), strsOf (ls.map fun l => .str (S l)) = some (ls.map S)
  | [] => rfl
  | l :: ls => by simp only [List.map_cons, strsOf, strsOf_S ls]
theorem nd_S {ls : List (List Nat)} (h : ls.Nodup) : (ls.map S).Nodup := List.Pairwise.map S (fun a b z q => z (S_inj.mp q)) h
theorem t_is_book (n : Nat) (B : Bk b) : T (n + 4) .is_book [.fz (dBook b)] = .ret (.fz (.bl true)) [.fz (dBook b)] := by
  show fnRun 10 (b_is_book (T (n + 3))) _ = _
  unfold b_is_book
  have h1 := t_is_tuple (n + 2) (b.map dKind) 1 6
  have e1 : (decide ((1 : Int) ≤ (((b.map dKind).length : Nat) : Int)) && decide ((((b.map dKind).length : Nat) : Int) ≤ 6)) = true := by have := B.n1; have := B.n6; simp; omega
  rw [e1] at h1
  have h2 := c_is_book_1' n B
  have h3 := c_is_book_2' n B
  obtain ⟨s4, s5, s6, s7, h4⟩ := l_is_book_2' (n + 3) B
  have h5 := c_is_book_3' (n + 3) B s4 s5 s6 s7
  have hml : (makesB b).length ≤ 36 := by have := makes_le B.n6 B.m6; have := B.n6; omega
  obtain ⟨xs, q1, u1, z1⟩ : ∃ xs, strsOf (namesD b) = some xs ∧ unlike xs = (namesD b).length ∧ (xs.length ≤ 4000) = True := ⟨_, by rw [show namesD b = (numL :: b.map (·.1)).map fun l => .str (S l) by simp [namesD], strsOf_S], by rw [unlike_of (nd_S B.kn)]; simp [namesD], eq_true (by have := B.n6; simp; omega)⟩
  obtain ⟨ys, q2, u2, z2⟩ : ∃ xs, strsOf (makesD b) = some xs ∧ unlike xs = (makesD b).length ∧ (xs.length ≤ 4000) = True := ⟨_, by rw [show makesD b = ((makesB b).map (·.1)).map fun l => .str (S l) by simp [makesD], strsOf_S], by rw [unlike_of (nd_S B.mn)]; simp [makesD], eq_true (by simp; omega)⟩
  have z3 : (1 + (b.map fun k => D.str (S k.1)).length ≤ sizeLine) = True := eq_true (by have := B.n6; simp; unfold sizeLine; omega)
  have i1 : (((namesD b).length : Int) < ((namesD b).length : Int)) = False := eq_false (by omega)
  have i2 : (((makesD b).length : Int) < ((makesD b).length : Int)) = False := eq_false (by omega)
  have hn : [D.str (S numL)] ++ (b.map fun k => D.str (S k.1)) = namesD b := rfl
  rw [num_lit]
  unfold dBook at *
  unfold bkEv dBook at h4 h5
  clear e1 hml
  have bt1 := boolsOf_true b
  have bt2 := boolsOf_true (fieldsD b)
  walk_at "evs"
end Sc.Law

set_option Elab.async false
set_option linter.all false
set_option autoImplicit false
set_option maxRecDepth 100000
set_option maxHeartbeats 2000000
namespace Sc.Law
open PySem L2 Sc
local macro_rules | `(tactic| walk_at "ev") => `(tactic| simp (config := { decide := false }) only [fnRun, seqM, ifS, orT, andT, notT, andM, orM, notM, testM, viewB, view, M.bind, M.pure, M.stuck, nameM, constM, bltM, viewAll, consA, nilA, retM, opM, chainM, isiM, tyName, strMM, tupM, lstM, freezeAll, freeze, setM, exprM, callM, callF, prep, lend, backM, wbAll, Rt.rv, iosOf, Arg.sl, List.map_cons, List.map_nil, List.length_cons, List.length_nil, Nat.zero_add, Nat.reduceAdd, Nat.reduceSub, Nat.reduceLT, List.replicate_succ, List.replicate_zero, List.cons_append, List.nil_append, List.getElem?_cons_zero, List.getElem?_cons_succ, List.set_cons_zero, List.set_cons_succ, methM, isObj, fldM, dget, putFM, objAt, putD, slOf, mutM, lstAt, raiseM, skipM, O.toD, leF, ltF, gtF, geF, subF, iiF, if_true, if_false, Bool.false_eq_true, lenF, Bool.not_true, Bool.not_false, decide_true, decide_false, kit_str_str, kit_str_tuple, kit_str_int, kit_str_bool, kit_int_str, kit_int_int, kit_int_bool, kit_int_tuple, kit_bool_int, kit_bool_bool, kit_bool_tuple, kit_bool_str, kit_tuple_tuple, kit_tuple_str, kit_tuple_int, kit_tuple_bool, kit_none_tuple, kit_none_str, kit_none_int, kit_none_bool, kit_list_tuple, kit_list_str, kit_list_int, nameG, tupGn, consG, nilG, if_pos, Nat.lt_add_one, ixF, appendF, Option.map_some, allF, all_tt, boolsOf_true, wipeE, restE, lcS, forS, freeze, tupGn, extendF, yesT, intF, putLM, rng1M, addF_ll, addF_ii, addF_tt, tupleF, sliceM, intM, dOpt, eqOF_int, neOF_int, inOF, Bool.false_xor, Bool.true_xor, Bool.true_and, Bool.and_true, sq0, sq1, sq2, sq3, sq4, sq5, sq6, sz0, sz1, sz2, sz3, sz4, sz5, sz6, lenSetM])
local macro_rules | `(tactic| walk_at "evs") => `(tactic| simp (config := { decide := false }) only [fnRun, seqM, ifS, orT, andT, notT, andM, orM, notM, testM, viewB, view, M.bind, M.pure, M.stuck, nameM, constM, bltM, viewAll, consA, nilA, retM, opM, chainM, isiM, tyName, strMM, tupM, lstM, freezeAll, freeze, setM, exprM, callM, callF, prep, lend, backM, wbAll, Rt.rv, iosOf, Arg.sl, List.map_cons, List.map_nil, List.length_cons, List.length_nil, Nat.zero_add, Nat.reduceAdd, Nat.reduceSub, Nat.reduceLT, List.replicate_succ, List.replicate_zero, List.cons_append, List.nil_append, List.getElem?_cons_zero, List.getElem?_cons_succ, List.set_cons_zero, List.set_cons_succ, methM, isObj, fldM, dget, putFM, objAt, putD, slOf, mutM, lstAt, raiseM, skipM, O.toD, leF, ltF, gtF, geF, subF, iiF, if_true, if_false, Bool.false_eq_true, lenF, Bool.not_true, Bool.not_false, decide_true, decide_false, kit_str_str, kit_str_tuple, kit_str_int, kit_str_bool, kit_int_str, kit_int_int, kit_int_bool, kit_int_tuple, kit_bool_int, kit_bool_bool, kit_bool_tuple, kit_bool_str, kit_tuple_tuple, kit_tuple_str, kit_tuple_int, kit_tuple_bool, kit_none_tuple, kit_none_str, kit_none_int, kit_none_bool, kit_list_tuple, kit_list_str, kit_list_int, nameG, tupGn, consG, nilG, if_pos, Nat.lt_add_one, ixF, appendF, Option.map_some, allF, all_tt, boolsOf_true, wipeE, restE, lcS, forS, freeze, tupGn, extendF, yesT, intF, putLM, rng1M, addF_ll, addF_ii, addF_tt, tupleF, sliceM, intM, dOpt, eqOF_int, neOF_int, inOF, Bool.false_xor, Bool.true_xor, Bool.true_and, Bool.and_true, sq0, sq1, sq2, sq3, sq4, sq5, sq6, sz0, sz1, sz2, sz3, sz4, sz5, sz6, lenSetM, *])
def stO (l : List Nat) (i : Nat) : O := .obj "Strip" ["signs", "spot"] [.str (S l), .int (i : Int)]
theorem ne_ss : (("signs" : Str) = "spot") = False := eq_false (by decide +kernel)
theorem ne_ps : (("spot" : Str) = "signs") = False := eq_false (by decide +kernel)
theorem szS {l : List Nat} (h : l.length ≤ 10000) : ((S l).length ≤ sizeLine) = True := eq_true (sl8 h)
theorem szL {l : List Nat} (h : l.length ≤ 10000) : (l.length ≤ sizeLine) = True := eq_true (by unfold sizeLine; omega)
theorem at_S {l r : List Nat} {i c : Nat} (h : At l i (c :: r)) : atI (S l).cps.toList (i : Int) = some c := by
  rw [S_cps]
  unfold atI ixN
  simp only [show ¬ ((i : Int) < 0) by omega, if_false, show ((i : Int) < (l.length : Int)) from by have := h.lt; omega, if_true, Int.toNat_natCast]
  simpa using h.get
theorem mk_S (c : Nat) : (⟨#[c]⟩ : Str) = S [c] := rfl
theorem kn_1 : ([("signs" : Str), "spot"].contains "is_through") = false := by decide +kernel
theorem kn_2 : ([("signs" : Str), "spot"].contains "meets") = false := by decide +kernel
theorem kn_3 : ([("signs" : Str), "spot"].contains "passes") = false := by decide +kernel
theorem kn_4 : ([("signs" : Str), "spot"].contains "must_pass") = false := by decide +kernel
theorem kn_5 : ([("signs" : Str), "spot"].contains "stretch_of") = false := by decide +kernel
theorem kn_6 : ([("signs" : Str), "spot"].contains "ends_well") = false := by decide +kernel
theorem t_init (n : Nat) (l : List Nat) : T (n + 1) .Strip___init__ [.io (.obj "Strip" [] []), .fz (.str (S l))] = .ret (.fz .non) [.io (stO l 0), .fz (.str (S l))] := by
  show fnRun 2 (b_Strip___init__ (T n)) _ = _
  unfold b_Strip___init__ stO
  have q1 := ne_ss
  walk_at "evs"
  rfl
theorem t_is_through (n : Nat) (l : List Nat) (i : Nat) (hs : l.length ≤ 10000) : T (n + 1) .Strip_is_through [.io (stO l i)] = .ret (.fz (.bl ((i : Int) == (l.length : Int)))) [.io (stO l i)] := by
  show fnRun 1 (b_Strip_is_through (T n)) _ = _
  unfold b_Strip_is_through stO
  have q1 := ne_ss
  have q2 := szL hs
  have q3 := S_len l
  clear hs
  walk_at "evs"
theorem t_meets (n : Nat) {l r : List Nat} {i c : Nat} (h : At l i (c :: r)) (hs : l.length ≤ 10000) (a : List Nat) : T (n + 2) .Strip_meets [.io (stO l i), .fz (.str (S a))] = .ret (.fz (.bl (decide (c ∈ a)))) [.io (stO l i), .fz (.str (S a))] := by
  show fnRun 2 (b_Strip_meets (T (n + 1))) _ = _
  have h1 := t_is_through n l i hs
  have e1 : ((i : Int) == (l.length : Int)) = false := by have := h.lt; simp; omega
  rw [e1] at h1
  have h2 := at_S h
  have z := szS hs
  have k1 := kn_1
  have q4 := mk_S c
  have h3 := @inF_sign c a
  have q1 := ne_ss
  unfold b_Strip_meets
  unfold stO at h1 ⊢
  clear h hs e1
  walk_at "evs"
theorem t_meets_end (n : Nat) {l : List Nat} {i : Nat} (h : At l i []) (hs : l.length ≤ 10000) (a : List Nat) : T (n + 2) .Strip_meets [.io (stO l i), .fz (.str (S a))] = .ret (.fz (.bl false)) [.io (stO l i), .fz (.str (S a))] := by
  show fnRun 2 (b_Strip_meets (T (n + 1))) _ = _
  have h1 := t_is_through n l i hs
  have e1 : ((i : Int) == (l.length : Int)) = true := by have := h.end; simp; omega
  rw [e1] at h1
  have k1 := kn_1
  have q1 := ne_ss
  unfold b_Strip_meets
  unfold stO at h1 ⊢
  clear h hs e1
  walk_at "evs"
theorem t_passes (n : Nat) {l r : List Nat} {i : Nat} (w : List Nat) (h : At l i r) (hs : l.length ≤ 10000) (hw : w.length ≤ 10000) : T (n + 1) .Strip_passes [.io (stO l i), .fz (.str (S w))] = .ret (.fz (.bl (w.isPrefixOf r))) [.io (stO l (if w.isPrefixOf r then i + w.length else i)), .fz (.str (S w))] := by
  show fnRun 2 (b_Strip_passes (T n)) _ = _
  unfold b_Strip_passes stO
  have q1 := ne_ss
  have q2 := ne_ps
  have z := szL hw
  have q4 : (((i + w.length : Nat) : Int)) = (i : Int) + (w.length : Int) := by omega
  have h1 : startsF (S l) [.str (S w), .int (i : Int)] = some (.fz (.bl (w.isPrefixOf r))) := by
    show some (Rv.fz (.bl (Txt.startswith3 (S l) (S w) (i : Int)))) = _
    rw [S_starts l w i h.le, h.eq]
  have q3 := S_len w
  clear hs hw h
  cases hp : w.isPrefixOf r with
  | false => walk_at "evs"
  | true =>
    walk_at "evs"
end Sc.Law

set_option Elab.async false
set_option linter.all false
set_option autoImplicit false
set_option maxRecDepth 100000
set_option maxHeartbeats 2000000
namespace Sc.Law
open PySem L2 Sc
local macro_rules | `(tactic| walk_at "ev") => `(tactic| simp (config := { decide := false }) only [fnRun, seqM, ifS, orT, andT, notT, andM, orM, notM, testM, viewB, view, M.bind, M.pure, M.stuck, nameM, constM, bltM, viewAll, consA, nilA, retM, opM, chainM, isiM, tyName, strMM, tupM, lstM, freezeAll, freeze, setM, exprM, callM, callF, prep, lend, backM, wbAll, Rt.rv, iosOf, Arg.sl, List.map_cons, List.map_nil, List.length_cons, List.length_nil, Nat.zero_add, Nat.reduceAdd, Nat.reduceSub, Nat.reduceLT, List.replicate_succ, List.replicate_zero, List.cons_append, List.nil_append, List.getElem?_cons_zero, List.getElem?_cons_succ, List.set_cons_zero, List.set_cons_succ, methM, isObj, fldM, dget, putFM, objAt, putD, slOf, mutM, lstAt, raiseM, skipM, O.toD, leF, ltF, gtF, geF, subF, iiF, if_true, if_false, Bool.false_eq_true, lenF, Bool.not_true, Bool.not_false, decide_true, decide_false, kit_str_str, kit_str_tuple, kit_str_int, kit_str_bool, kit_int_str, kit_int_int, kit_int_bool, kit_int_tuple, kit_bool_int, kit_bool_bool, kit_bool_tuple, kit_bool_str, kit_tuple_tuple, kit_tuple_str, kit_tuple_int, kit_tuple_bool, kit_none_tuple, kit_none_str, kit_none_int, kit_none_bool, kit_list_tuple, kit_list_str, kit_list_int, nameG, tupGn, consG, nilG, if_pos, Nat.lt_add_one, ixF, appendF, Option.map_some, allF, all_tt, boolsOf_true, wipeE, restE, lcS, forS, freeze, tupGn, extendF, yesT, intF, putLM, rng1M, addF_ll, addF_ii, addF_tt, tupleF, sliceM, intM, dOpt, eqOF_int, neOF_int, inOF, Bool.false_xor, Bool.true_xor, Bool.true_and, Bool.and_true, sq0, sq1, sq2, sq3, sq4, sq5, sq6, sz0, sz1, sz2, sz3, sz4, sz5, sz6, lenSetM])
local macro_rules | `(tactic| walk_at "evs") => `(tactic| simp (config := { decide := false }) only [fnRun, seqM, ifS, orT, andT, notT, andM, orM, notM, testM, viewB, view, M.bind, M.pure, M.stuck, nameM, constM, bltM, viewAll, consA, nilA, retM, opM, chainM, isiM, tyName, strMM, tupM, lstM, freezeAll, freeze, setM, exprM, callM, callF, prep, lend, backM, wbAll, Rt.rv, iosOf, Arg.sl, List.map_cons, List.map_nil, List.length_cons, List.length_nil, Nat.zero_add, Nat.reduceAdd, Nat.reduceSub, Nat.reduceLT, List.replicate_succ, List.replicate_zero, List.cons_append, List.nil_append, List.getElem?_cons_zero, List.getElem?_cons_succ, List.set_cons_zero, List.set_cons_succ, methM, isObj, fldM, dget, putFM, objAt, putD, slOf, mutM, lstAt, raiseM, skipM, O.toD, leF, ltF, gtF, geF, subF, iiF, if_true, if_false, Bool.false_eq_true, lenF, Bool.not_true, Bool.not_false, decide_true, decide_false, kit_str_str, kit_str_tuple, kit_str_int, kit_str_bool, kit_int_str, kit_int_int, kit_int_bool, kit_int_tuple, kit_bool_int, kit_bool_bool, kit_bool_tuple, kit_bool_str, kit_tuple_tuple, kit_tuple_str, kit_tuple_int, kit_tuple_bool, kit_none_tuple, kit_none_str, kit_none_int, kit_none_bool, kit_list_tuple, kit_list_str, kit_list_int, nameG, tupGn, consG, nilG, if_pos, Nat.lt_add_one, ixF, appendF, Option.map_some, allF, all_tt, boolsOf_true, wipeE, restE, lcS, forS, freeze, tupGn, extendF, yesT, intF, putLM, rng1M, addF_ll, addF_ii, addF_tt, tupleF, sliceM, intM, dOpt, eqOF_int, neOF_int, inOF, Bool.false_xor, Bool.true_xor, Bool.true_and, Bool.and_true, sq0, sq1, sq2, sq3, sq4, sq5, sq6, sz0, sz1, sz2, sz3, sz4, sz5, sz6, lenSetM, *])
theorem t_passes_y (n : Nat) {l r : List Nat} {i : Nat} {w : List Nat} (h : At l i (w ++ r)) (hs : l.length ≤ 10000) : T (n + 1) .Strip_passes [.io (stO l i), .fz (.str (S w))] = .ret (.fz (.bl true)) [.io (stO l (i + w.length)), .fz (.str (S w))] := by
  have hw : w.length ≤ 10000 := by have := h.step.le; omega
  rw [t_passes n w h hs hw]
  have e : w.isPrefixOf (w ++ r) = true := List.isPrefixOf_iff_prefix.mpr (List.prefix_append w r)
  rw [e, if_pos rfl]
theorem t_passes_n (n : Nat) {l r : List Nat} {i : Nat} {w : List Nat} (h : At l i r) (hs : l.length ≤ 10000) (hw : w.length ≤ 10000) (e : w.isPrefixOf r = false) : T (n + 1) .Strip_passes [.io (stO l i), .fz (.str (S w))] = .ret (.fz (.bl false)) [.io (stO l i), .fz (.str (S w))] := by
  rw [t_passes n w h hs hw, e, if_neg (by decide)]
theorem t_must_pass (n : Nat) {l r : List Nat} {i : Nat} {w : List Nat} (h : At l i (w ++ r)) (hs : l.length ≤ 10000) : T (n + 2) .Strip_must_pass [.io (stO l i), .fz (.str (S w))] = .ret (.fz .non) [.io (stO l (i + w.length)), .fz (.str (S w))] := by
  show fnRun 2 (b_Strip_must_pass (T (n + 1))) _ = _
  have h1 := t_passes_y n h hs
  have k := kn_3
  unfold b_Strip_must_pass
  unfold stO at h1 ⊢
  clear h hs
  walk_at "evs"
theorem t_ends_well (n : Nat) {l : List Nat} {i : Nat} (h : At l i []) (hs : l.length ≤ 10000) : T (n + 2) .Strip_ends_well [.io (stO l i)] = .ret (.fz .non) [.io (stO l i)] := by
  show fnRun 1 (b_Strip_ends_well (T (n + 1))) _ = _
  have h1 := t_is_through n l i hs
  have e1 : ((i : Int) == (l.length : Int)) = true := by have := h.end; simp; omega
  rw [e1] at h1
  have k := kn_1
  unfold b_Strip_ends_well
  unfold stO at h1 ⊢
  clear h hs e1
  walk_at "evs"
def Stop (a r : List Nat) : Prop := ∀ c ∈ r.head?, c ∉ a
theorem w_stretch (n : Nat) {l : List Nat} (hs : l.length ≤ 10000) (a : List Nat) (s : Int) : ∀ (w : List Nat) {r : List Nat} {i : Nat}, At l i (w ++ r) → (∀ c ∈ w, c ∈ a) → Stop a r →
    w_Strip_stretch_of_1 (T (n + 2)) [.io (stO l i), .fz (.str (S a)), .fz (.int s)] = .ok .nx [.io (stO l (i + w.length)), .fz (.str (S a)), .fz (.int s)]
  | [], r, i, h, _, hr => by
    unfold w_Strip_stretch_of_1
    refine whileM_done ?_
    have h1 : T (n + 2) .Strip_meets [.io (stO l i), .fz (.str (S a))] = .ret (.fz (.bl false)) [.io (stO l i), .fz (.str (S a))] := by
      cases r with
      | nil => exact t_meets_end n h hs a
      | cons c r => rw [t_meets n h hs a, decide_eq_false (hr c rfl)]
    have k := kn_2
    unfold stO at h1 ⊢
    clear h hs hr
    walk_at "evs"
    rfl
  | c :: w, r, i, h, ha, hr => by
    have ih := w_stretch n hs a s w h.one (fun c hc => ha c (by simp [hc])) hr
    unfold w_Strip_stretch_of_1 at ih ⊢
    have h1 := t_meets n h hs a
    rw [decide_eq_true (ha c (by simp))] at h1
    have e : i + 1 + w.length = i + (c :: w).length := by simp; omega
    rw [e] at ih
    refine (whileM_step (e1 := [.io (stO l i), .fz (.str (S a)), .fz (.int s)]) (e2 := [.io (stO l (i + 1)), .fz (.str (S a)), .fz (.int s)]) ?_ ?_ (by rw [ih]; rfl)).trans ih
    · have k := kn_2
      unfold stO at h1 ⊢
      clear ih h hs ha hr e
      walk_at "evs"
    · have q1 := ne_ss
      have q2 := ne_ps
      have q4 : (((i + 1 : Nat) : Int)) = (i : Int) + 1 := by omega
      unfold stO
      clear ih h hs ha hr e h1
      walk_at "evs"
theorem t_stretch (n : Nat) {l w r : List Nat} {i : Nat} {a : List Nat} (h : At l i (w ++ r)) (hs : l.length ≤ 10000) (h0 : 1 ≤ w.length) (ha : ∀ c ∈ w, c ∈ a) (hr : Stop a r) :
    T (n + 3) .Strip_stretch_of [.io (stO l i), .fz (.str (S a))] = .ret (.fz (.str (S w))) [.io (stO l (i + w.length)), .fz (.str (S a))] := by
  show fnRun 3 (b_Strip_stretch_of (T (n + 2))) _ = _
  have h1 := w_stretch n hs a (i : Int) w h ha hr
  have h2 : slF (.str (S l)) (some (i : Int)) (some ((i + w.length : Nat) : Int)) = some (.fz (.str (S w))) := sl_S h hs
  have q1 := ne_ss
  have e : (((i + w.length : Nat) : Int) == (i : Int)) = false := by simp; omega
  unfold b_Strip_stretch_of
  unfold stO at h1 ⊢
  clear h hs h0 ha hr
  walk_at "evs"


end Sc.Law

set_option Elab.async false
set_option linter.all false
set_option autoImplicit false
set_option maxRecDepth 100000
set_option maxHeartbeats 2000000
namespace Sc.Law
open PySem L2 Sc
local macro_rules | `(tactic| walk_at "ev") => `(tactic| simp (config := { decide := false }) only [fnRun, seqM, ifS, orT, andT, notT, andM, orM, notM, testM, viewB, view, M.bind, M.pure, M.stuck, nameM, constM, bltM, viewAll, consA, nilA, retM, opM, chainM, isiM, tyName, strMM, tupM, lstM, freezeAll, freeze, setM, exprM, callM, callF, prep, lend, backM, wbAll, Rt.rv, iosOf, Arg.sl, List.map_cons, List.map_nil, List.length_cons, List.length_nil, Nat.zero_add, Nat.reduceAdd, Nat.reduceSub, Nat.reduceLT, List.replicate_succ, List.replicate_zero, List.cons_append, List.nil_append, List.getElem?_cons_zero, List.getElem?_cons_succ, List.set_cons_zero, List.set_cons_succ, methM, isObj, fldM, dget, putFM, objAt, putD, slOf, mutM, lstAt, raiseM, skipM, O.toD, leF, ltF, gtF, geF, subF, iiF, if_true, if_false, Bool.false_eq_true, lenF, Bool.not_true, Bool.not_false, decide_true, decide_false, kit_str_str, kit_str_tuple, kit_str_int, kit_str_bool, kit_int_str, kit_int_int, kit_int_bool, kit_int_tuple, kit_bool_int, kit_bool_bool, kit_bool_tuple, kit_bool_str, kit_tuple_tuple, kit_tuple_str, kit_tuple_int, kit_tuple_bool, kit_none_tuple, kit_none_str, kit_none_int, kit_none_bool, kit_list_tuple, kit_list_str, kit_list_int, nameG, tupGn, consG, nilG, if_pos, Nat.lt_add_one, ixF, appendF, Option.map_some, allF, all_tt, boolsOf_true, wipeE, restE, lcS, forS, freeze, tupGn, extendF, yesT, intF, putLM, rng1M, addF_ll, addF_ii, addF_tt, tupleF, sliceM, intM, dOpt, eqOF_int, neOF_int, inOF, Bool.false_xor, Bool.true_xor, Bool.true_and, Bool.and_true, sq0, sq1, sq2, sq3, sq4, sq5, sq6, sz0, sz1, sz2, sz3, sz4, sz5, sz6, lenSetM])
local macro_rules | `(tactic| walk_at "evs") => `(tactic| simp (config := { decide := false }) only [fnRun, seqM, ifS, orT, andT, notT, andM, orM, notM, testM, viewB, view, M.bind, M.pure, M.stuck, nameM, constM, bltM, viewAll, consA, nilA, retM, opM, chainM, isiM, tyName, strMM, tupM, lstM, freezeAll, freeze, setM, exprM, callM, callF, prep, lend, backM, wbAll, Rt.rv, iosOf, Arg.sl, List.map_cons, List.map_nil, List.length_cons, List.length_nil, Nat.zero_add, Nat.reduceAdd, Nat.reduceSub, Nat.reduceLT, List.replicate_succ, List.replicate_zero, List.cons_append, List.nil_append, List.getElem?_cons_zero, List.getElem?_cons_succ, List.set_cons_zero, List.set_cons_succ, methM, isObj, fldM, dget, putFM, objAt, putD, slOf, mutM, lstAt, raiseM, skipM, O.toD, leF, ltF, gtF, geF, subF, iiF, if_true, if_false, Bool.false_eq_true, lenF, Bool.not_true, Bool.not_false, decide_true, decide_false, kit_str_str, kit_str_tuple, kit_str_int, kit_str_bool, kit_int_str, kit_int_int, kit_int_bool, kit_int_tuple, kit_bool_int, kit_bool_bool, kit_bool_tuple, kit_bool_str, kit_tuple_tuple, kit_tuple_str, kit_tuple_int, kit_tuple_bool, kit_none_tuple, kit_none_str, kit_none_int, kit_none_bool, kit_list_tuple, kit_list_str, kit_list_int, nameG, tupGn, consG, nilG, if_pos, Nat.lt_add_one, ixF, appendF, Option.map_some, allF, all_tt, boolsOf_true, wipeE, restE, lcS, forS, freeze, tupGn, extendF, yesT, intF, putLM, rng1M, addF_ll, addF_ii, addF_tt, tupleF, sliceM, intM, dOpt, eqOF_int, neOF_int, inOF, Bool.false_xor, Bool.true_xor, Bool.true_and, Bool.and_true, sq0, sq1, sq2, sq3, sq4, sq5, sq6, sz0, sz1, sz2, sz3, sz4, sz5, sz6, lenSetM, *])
theorem lit_lp : ("(" : Str) = S [40] := by decide +kernel
theorem lit_rp : (")" : Str) = S [41] := by decide +kernel
theorem lit_sp : (" " : Str) = S [32] := by decide +kernel
theorem lit_eq : (" = " : Str) = S [32, 61, 32] := by decide +kernel
theorem lit_or : (" | " : Str) = S [32, 124, 32] := by decide +kernel
theorem lit_sc : ("; " : Str) = S [59, 32] := by decide +kernel
def brT (ws : List (List Nat)) : List Nat := if ws = [] then [] else 40 :: joinT [32] ws ++ [41]
theorem stop_sp (r : List Nat) : Stop azL (32 :: r) := by intro c hc; simp at hc; subst hc; decide
theorem stop_rp (r : List Nat) : Stop azL (41 :: r) := by intro c hc; simp at hc; subst hc; decide
theorem w_words (n : Nat) {l : List Nat} (hs : l.length ≤ 10000) : ∀ (ws : List (List Nat)) (acc : List D) {r : List Nat} {i : Nat}, At l i (ws.flatMap ([32] ++ ·) ++ 41 :: r) → (∀ w ∈ ws, Wd w) → acc.length + ws.length ≤ 10000 →
    w_words_read_1 (T (n + 3)) [.io (stO l i), .own (.lst acc)] = .ok .nx [.io (stO l (i + (ws.flatMap ([32] ++ ·)).length)), .own (.lst (acc ++ ws.map dStr))]
  | [], acc, r, i, h, _, _ => by
    unfold w_words_read_1
    refine whileM_done ?_
    have h1 := t_passes_n (n + 2) (w := [32]) h hs (by decide) (by simp [List.isPrefixOf])
    have k := kn_3
    rw [lit_sp]
    simp only [List.map_nil, List.append_nil, List.flatMap_nil, List.length_nil, Nat.add_zero]
    unfold stO at h1 ⊢
    clear h hs
    walk_at "evs"
  | w :: ws, acc, r, i, h, hw, hl => by
    simp only [List.flatMap_cons, List.append_assoc] at h
    have wd := hw w (by simp)
    have h1 := t_passes_y (n + 2) h hs
    have h2 := h.step
    have st : Stop azL (ws.flatMap ([32] ++ ·) ++ 41 :: r) := by
      cases ws with
      | nil => exact stop_rp r
      | cons v vs => exact stop_sp _
    have h3 := t_stretch n h2 hs wd.one (fun c hc => az_mem.mpr (wd.az c hc)) st
    have h4 := h2.step
    simp only [List.length_cons] at hl
    have ih := w_words n hs ws (acc ++ [dStr w]) h4 (fun v hv => hw v (by simp [hv])) (by simp; omega)
    have e : i + [32].length + w.length + (ws.flatMap ([32] ++ ·)).length = i + ((w :: ws).flatMap ([32] ++ ·)).length := by simp; omega
    rw [e] at ih
    have e2 : acc ++ [dStr w] ++ ws.map dStr = acc ++ (w :: ws).map dStr := by simp
    rw [e2] at ih
    unfold w_words_read_1 at ih ⊢
    refine (whileM_step (e1 := [.io (stO l (i + [32].length)), .own (.lst acc)]) (e2 := [.io (stO l (i + [32].length + w.length)), .own (.lst (acc ++ [dStr w]))]) ?_ ?_ (by rw [ih]; rfl)).trans ih
    · have k := kn_3
      rw [lit_sp]
      unfold stO at h1 ⊢
      clear ih h hs e e2 h2 h3 h4 st wd hw hl
      generalize i + [32].length = j at *
      walk_at "evs"
    · have k := kn_5
      have z : (acc.length < sizeLine) = True := eq_true (by unfold sizeLine; omega)
      rw [az_lit]
      unfold stO at h3 ⊢
      unfold dStr
      clear ih h hs e e2 h1 h2 h4 st wd hw hl
      generalize i + [32].length = j at *
      walk_at "evs"
theorem t_words_read (n : Nat) {l r : List Nat} (hs : l.length ≤ 10000) (ws : List (List Nat)) {i : Nat} (h : At l i (brT ws ++ r)) (hw : ∀ w ∈ ws, Wd w) (hl : ws.length ≤ 100) (hr : ∀ c ∈ r.head?, c ≠ 40) :
    T (n + 4) .words_read [.io (stO l i)] = .ret (.fz (.tup (ws.map dStr))) [.io (stO l (i + (brT ws).length))] := by
  show fnRun 2 (b_words_read (T (n + 3))) _ = _
  have k3 := kn_3
  have k4 := kn_4
  have k5 := kn_5
  unfold b_words_read
  rw [lit_lp, lit_rp, az_lit]
  cases ws with
  | nil =>
    have h1 := t_passes_n (n + 2) (w := [40]) h hs (by decide) (by
      cases r with
      | nil => rfl
      | cons c r => have := hr c rfl; simp [brT, List.isPrefixOf]; exact fun z => this z.symm)
    simp only [show brT [] = [] from rfl, List.map_nil, List.length_nil, Nat.add_zero]
    unfold stO at h1 ⊢
    clear h hs hr hw hl
    walk_at "evs"
  | cons w ws =>
    have eb : brT (w :: ws) = [40] ++ (w ++ (ws.flatMap ([32] ++ ·) ++ [41])) := by simp [brT, joinT_cons]
    rw [eb] at h
    simp only [List.append_assoc] at h
    have wd := hw w (by simp)
    have h1 := t_passes_y (n + 2) h hs
    have h2 := h.step
    have st : Stop azL (ws.flatMap ([32] ++ ·) ++ ([41] ++ r)) := by
      cases ws with
      | nil => exact stop_rp r
      | cons v vs => exact stop_sp _
    have h3 := t_stretch n h2 hs wd.one (fun c hc => az_mem.mpr (wd.az c hc)) st
    have h4 := h2.step
    simp only [List.length_cons] at hl
    have h5 := w_words n hs ws [dStr w] h4 (fun v hv => hw v (by simp [hv])) (by simp; omega)
    have h6 := t_must_pass (n + 1) h4.step hs
    have e : i + [40].length + w.length + (ws.flatMap ([32] ++ ·)).length + [41].length = i + (brT (w :: ws)).length := by rw [eb]; simp only [List.length_append]; omega
    rw [← e]
    unfold stO dStr at *
    generalize (ws.flatMap ([32] ++ ·)).length = v at *
    generalize i + [40].length = j1 at *
    generalize j1 + w.length = j2 at *
    generalize j2 + v = j3 at *
    generalize j3 + [41].length = j4 at *
    clear h hs e h2 h4 st wd hw hl hr eb
    simp only [List.cons_append, List.nil_append, List.map_cons] at *
    walk_at "evs"
end Sc.Law

set_option Elab.async false
set_option linter.all false
set_option autoImplicit false
set_option maxRecDepth 100000
set_option maxHeartbeats 2000000
namespace Sc.Law
open PySem L2 Sc
local macro_rules | `(tactic| walk_at "ev") => `(tactic| simp (config := { decide := false }) only [fnRun, seqM, ifS, orT, andT, notT, andM, orM, notM, testM, viewB, view, M.bind, M.pure, M.stuck, nameM, constM, bltM, viewAll, consA, nilA, retM, opM, chainM, isiM, tyName, strMM, tupM, lstM, freezeAll, freeze, setM, exprM, callM, callF, prep, lend, backM, wbAll, Rt.rv, iosOf, Arg.sl, List.map_cons, List.map_nil, List.length_cons, List.length_nil, Nat.zero_add, Nat.reduceAdd, Nat.reduceSub, Nat.reduceLT, List.replicate_succ, List.replicate_zero, List.cons_append, List.nil_append, List.getElem?_cons_zero, List.getElem?_cons_succ, List.set_cons_zero, List.set_cons_succ, methM, isObj, fldM, dget, putFM, objAt, putD, slOf, mutM, lstAt, raiseM, skipM, O.toD, leF, ltF, gtF, geF, subF, iiF, if_true, if_false, Bool.false_eq_true, lenF, Bool.not_true, Bool.not_false, decide_true, decide_false, kit_str_str, kit_str_tuple, kit_str_int, kit_str_bool, kit_int_str, kit_int_int, kit_int_bool, kit_int_tuple, kit_bool_int, kit_bool_bool, kit_bool_tuple, kit_bool_str, kit_tuple_tuple, kit_tuple_str, kit_tuple_int, kit_tuple_bool, kit_none_tuple, kit_none_str, kit_none_int, kit_none_bool, kit_list_tuple, kit_list_str, kit_list_int, nameG, tupGn, consG, nilG, if_pos, Nat.lt_add_one, ixF, appendF, Option.map_some, allF, all_tt, boolsOf_true, wipeE, restE, lcS, forS, freeze, tupGn, extendF, yesT, intF, putLM, rng1M, addF_ll, addF_ii, addF_tt, tupleF, sliceM, intM, dOpt, eqOF_int, neOF_int, inOF, Bool.false_xor, Bool.true_xor, Bool.true_and, Bool.and_true, sq0, sq1, sq2, sq3, sq4, sq5, sq6, sz0, sz1, sz2, sz3, sz4, sz5, sz6, lenSetM])
local macro_rules | `(tactic| walk_at "evs") => `(tactic| simp (config := { decide := false }) only [fnRun, seqM, ifS, orT, andT, notT, andM, orM, notM, testM, viewB, view, M.bind, M.pure, M.stuck, nameM, constM, bltM, viewAll, consA, nilA, retM, opM, chainM, isiM, tyName, strMM, tupM, lstM, freezeAll, freeze, setM, exprM, callM, callF, prep, lend, backM, wbAll, Rt.rv, iosOf, Arg.sl, List.map_cons, List.map_nil, List.length_cons, List.length_nil, Nat.zero_add, Nat.reduceAdd, Nat.reduceSub, Nat.reduceLT, List.replicate_succ, List.replicate_zero, List.cons_append, List.nil_append, List.getElem?_cons_zero, List.getElem?_cons_succ, List.set_cons_zero, List.set_cons_succ, methM, isObj, fldM, dget, putFM, objAt, putD, slOf, mutM, lstAt, raiseM, skipM, O.toD, leF, ltF, gtF, geF, subF, iiF, if_true, if_false, Bool.false_eq_true, lenF, Bool.not_true, Bool.not_false, decide_true, decide_false, kit_str_str, kit_str_tuple, kit_str_int, kit_str_bool, kit_int_str, kit_int_int, kit_int_bool, kit_int_tuple, kit_bool_int, kit_bool_bool, kit_bool_tuple, kit_bool_str, kit_tuple_tuple, kit_tuple_str, kit_tuple_int, kit_tuple_bool, kit_none_tuple, kit_none_str, kit_none_int, kit_none_bool, kit_list_tuple, kit_list_str, kit_list_int, nameG, tupGn, consG, nilG, if_pos, Nat.lt_add_one, ixF, appendF, Option.map_some, allF, all_tt, boolsOf_true, wipeE, restE, lcS, forS, freeze, tupGn, extendF, yesT, intF, putLM, rng1M, addF_ll, addF_ii, addF_tt, tupleF, sliceM, intM, dOpt, eqOF_int, neOF_int, inOF, Bool.false_xor, Bool.true_xor, Bool.true_and, Bool.and_true, sq0, sq1, sq2, sq3, sq4, sq5, sq6, sz0, sz1, sz2, sz3, sz4, sz5, sz6, lenSetM, *])
def mkT (m : Mk0) : List Nat := m.1 ++ brT m.2
def orL : List Nat := [32, 124, 32]
def eqL : List Nat := [32, 61, 32]
def scL : List Nat := [59, 32]
def kdT (k : Kd) : List Nat := k.1 ++ eqL ++ joinT orL (k.2.map mkT)
def bkT (b : Book) : List Nat := joinT scL (b.map kdT)
def Nx (r : List Nat) : Prop := ∀ c ∈ r.head?, c ∉ azL ∧ c ≠ 40
theorem Nx.stop {r : List Nat} (h : Nx r) : Stop azL r := fun c hc => (h c hc).1
theorem nx_or (r : List Nat) : Nx (orL ++ r) := by intro c hc; simp [orL] at hc; subst hc; decide
theorem nx_sc (r : List Nat) : Nx (scL ++ r) := by intro c hc; simp [scL] at hc; subst hc; decide
theorem nx_nil : Nx [] := by intro c hc; simp at hc
theorem stop_br (ws : List (List Nat)) {r : List Nat} (h : Nx r) : Stop azL (brT ws ++ r) := by
  cases ws with
  | nil => simpa [brT] using h.stop
  | cons w ws =>
    have : brT (w :: ws) ++ r = 40 :: (joinT [32] (w :: ws) ++ [41] ++ r) := by simp [brT]
    rw [this]
    intro c hc; simp at hc; subst hc; decide
theorem stop_eq (r : List Nat) : Stop azL (eqL ++ r) := by intro c hc; simp [eqL] at hc; subst hc; decide
/-- what the words of a make may be -/
structure MkOk (m : Mk0) : Prop where
  w : Wd m.1
  f : ∀ x ∈ m.2, Wd x
  n : m.2.length ≤ 100
theorem w_makes (n : Nat) {l : List Nat} (hs : l.length ≤ 10000) (nm : D) : ∀ (ms : List Mk0) (acc : List D) (s : Sl) {r : List Nat} {i : Nat}, At l i (ms.flatMap (fun m => orL ++ mkT m) ++ r) → (∀ m ∈ ms, MkOk m) → acc.length + ms.length ≤ 1000 → Nx r → orL.isPrefixOf r = false →
    ∃ s', w_kind_read_1 (T (n + 4)) [.io (stO l i), .fz nm, .own (.lst acc), s] = .ok .nx [.io (stO l (i + (ms.flatMap (fun m => orL ++ mkT m)).length)), .fz nm, .own (.lst (acc ++ ms.map dMake)), s']
  | [], acc, s, r, i, h, _, _, hn, hp => by
    refine ⟨s, ?_⟩
    unfold w_kind_read_1
    refine whileM_done ?_
    have h1 := t_passes_n (n + 3) (w := orL) h hs (by decide) (by simpa using hp)
    have k := kn_3
    rw [lit_or]
    simp only [List.map_nil, List.append_nil, List.flatMap_nil, List.length_nil, Nat.add_zero]
    unfold stO at h1 ⊢
    unfold orL at h1
    clear h hs hp hn
    walk_at "evs"
  | m :: ms, acc, s, r, i, h, hw, hl, hn, hp => by
    simp only [List.flatMap_cons, List.append_assoc] at h
    have ok := hw m (by simp)
    have h1 := t_passes_y (n + 3) h hs
    have h2 := h.step
    unfold mkT at h2
    rw [List.append_assoc] at h2
    have nx : Nx (ms.flatMap (fun m => orL ++ (m.1 ++ brT m.2)) ++ r) := by
      cases ms with
      | nil => simpa using hn
      | cons v vs => simp only [List.flatMap_cons, List.append_assoc]; exact nx_or _
    have h3 := t_stretch (n + 1) h2 hs ok.w.one (fun c hc => az_mem.mpr (ok.w.az c hc)) (stop_br _ nx)
    have h4 := h2.step
    have h5 := t_words_read n hs m.2 h4 ok.f ok.n fun c hc => (nx c hc).2
    have h6 := h4.step
    simp only [List.length_cons] at hl
    obtain ⟨s', ih⟩ := w_makes n hs nm ms (acc ++ [dMake m]) (.fz (.str (S m.1))) (r := r) h6 (fun v hv => hw v (by simp [hv])) (by simp; omega) hn hp
    refine ⟨s', ?_⟩
    have e : i + orL.length + m.1.length + (brT m.2).length + (ms.flatMap (fun m => orL ++ mkT m)).length = i + ((m :: ms).flatMap (fun m => orL ++ mkT m)).length := by simp [mkT]; omega
    have e2 : acc ++ [dMake m] ++ ms.map dMake = acc ++ (m :: ms).map dMake := by simp
    rw [e, e2] at ih
    unfold w_kind_read_1 at ih ⊢
    refine (whileM_step (e1 := [.io (stO l (i + orL.length)), .fz nm, .own (.lst acc), s]) (e2 := [.io (stO l (i + orL.length + m.1.length + (brT m.2).length)), .fz nm, .own (.lst (acc ++ [dMake m])), .fz (.str (S m.1))]) ?_ ?_ (by rw [ih]; rfl)).trans ih
    · have k := kn_3
      rw [lit_or]
      generalize i + orL.length = j at *
      unfold stO at h1 ⊢
      unfold orL at h1
      clear ih h hs e e2 h2 h3 h4 h5 h6 nx ok hw hl hn hp
      walk_at "evs"
    · have k := kn_5
      have z : (acc.length < sizeLine) = True := eq_true (by unfold sizeLine; omega)
      rw [az_lit]
      unfold stO at h3 h5 ⊢
      clear ih h hs e e2 h2 h4 h6 nx ok hw hl hn hp h1
      generalize i + orL.length = j at *
      generalize j + m.1.length = j1 at *
      generalize j1 + (brT m.2).length = j2 at *
      walk_at "evs"
      rfl
theorem t_kind_read (n : Nat) {l r : List Nat} (hs : l.length ≤ 10000) (k : Kd) {i : Nat} (h : At l i (kdT k ++ r)) (kw : Wd k.1) (hm : ∀ m ∈ k.2, MkOk m) (h1m : 1 ≤ k.2.length) (hl : k.2.length ≤ 100) (hn : Nx r) (hp : orL.isPrefixOf r = false) :
    T (n + 5) .kind_read [.io (stO l i)] = .ret (.fz (dKind k)) [.io (stO l (i + (kdT k).length))] := by
  show fnRun 4 (b_kind_read (T (n + 4))) _ = _
  have k4 := kn_4
  have k5 := kn_5
  unfold b_kind_read
  rw [lit_eq, az_lit]
  obtain ⟨nm, ms⟩ := k
  cases ms with
  | nil => simp at h1m
  | cons m ms =>
    have eb : kdT (nm, m :: ms) = nm ++ (eqL ++ (m.1 ++ (brT m.2 ++ ms.flatMap (fun m => orL ++ mkT m)))) := by simp [kdT, joinT_cons, mkT, List.flatMap_map]
    rw [eb] at h
    simp only [List.append_assoc] at h
    have ok := hm m (by simp)
    have h1 := t_stretch (n + 1) h hs kw.one (fun c hc => az_mem.mpr (kw.az c hc)) (stop_eq _)
    have h2 := h.step
    have h3 := t_must_pass (n + 2) h2 hs
    have h4 := h2.step
    have nx : Nx (ms.flatMap (fun m => orL ++ mkT m) ++ r) := by
      cases ms with
      | nil => simpa using hn
      | cons v vs => simp only [List.flatMap_cons, List.append_assoc]; exact nx_or _
    have h5 := t_stretch (n + 1) h4 hs ok.w.one (fun c hc => az_mem.mpr (ok.w.az c hc)) (stop_br _ nx)
    have h6 := h4.step
    have h7 := t_words_read n hs m.2 h6 ok.f ok.n fun c hc => (nx c hc).2
    have h8 := h6.step
    simp only [List.length_cons] at hl
    obtain ⟨s', h9⟩ := w_makes n hs (.str (S nm)) ms [dMake m] .un h8 (fun v hv => hm v (by simp [hv])) (by simp; omega) hn hp
    have e : i + nm.length + eqL.length + m.1.length + (brT m.2).length + (ms.flatMap (fun m => orL ++ mkT m)).length = i + (kdT (nm, m :: ms)).length := by rw [eb]; simp only [List.length_append]; omega
    rw [← e]
    have e9 : dKind (nm, m :: ms) = .tup [.str (S nm), .tup ([dMake m] ++ ms.map dMake)] := by simp [dKind]
    have e8 : dMake m = .tup [.str (S m.1), .tup (m.2.map dStr)] := rfl
    rw [e9]
    rw [e8] at h9 ⊢
    unfold stO at *
    generalize (ms.flatMap (fun m => orL ++ mkT m)).length = v at *
    generalize i + nm.length = j1 at *
    generalize j1 + eqL.length = j2 at *
    unfold eqL at h3
    generalize j2 + m.1.length = j3 at *
    generalize j3 + (brT m.2).length = j4 at *
    clear h hs e h2 h4 nx kw ok hm hl hn hp eb e8 e9 h6 h8 h1m
    walk_at "evs"
theorem w_kinds (n : Nat) {l : List Nat} (hs : l.length ≤ 10000) : ∀ (ks : List Kd) (acc : List D) {i : Nat}, At l i (ks.flatMap (fun k => scL ++ kdT k)) → (∀ k ∈ ks, Wd k.1 ∧ (∀ m ∈ k.2, MkOk m) ∧ 1 ≤ k.2.length ∧ k.2.length ≤ 100) → acc.length + ks.length ≤ 1000 →
    w_read_book_1 (T (n + 5)) [.fz (.str (S l)), .own (stO l i), .own (.lst acc), .un] = .ok .nx [.fz (.str (S l)), .own (stO l l.length), .own (.lst (acc ++ ks.map dKind)), .un]
  | [], acc, i, h, _, _ => by
    unfold w_read_book_1
    refine whileM_done ?_
    have h1 := t_passes_n (n + 4) (w := scL) h hs (by decide) rfl
    have k := kn_3
    have e := h.end
    subst e
    rw [lit_sc]
    simp only [List.map_nil, List.append_nil]
    unfold stO at h1 ⊢
    unfold scL at h1
    clear h hs
    walk_at "evs"
  | k :: ks, acc, i, h, hw, hl => by
    simp only [List.flatMap_cons, List.append_assoc] at h
    obtain ⟨o1, o2, o3, o4⟩ := hw k (by simp)
    have h1 := t_passes_y (n + 4) h hs
    have h2 := h.step
    have nx : Nx (ks.flatMap (fun k => scL ++ kdT k)) := by
      cases ks with
      | nil => exact nx_nil
      | cons v vs => simp only [List.flatMap_cons, List.append_assoc]; exact nx_sc _
    have np : orL.isPrefixOf (ks.flatMap (fun k => scL ++ kdT k)) = false := by
      cases ks with
      | nil => rfl
      | cons v vs => simp [scL, orL, List.isPrefixOf]
    have h3 := t_kind_read n hs k h2 o1 o2 o3 o4 nx np
    have h4 := h2.step
    simp only [List.length_cons] at hl
    have ih := w_kinds n hs ks (acc ++ [dKind k]) h4 (fun v hv => hw v (by simp [hv])) (by simp; omega)
    have e2 : acc ++ [dKind k] ++ ks.map dKind = acc ++ (k :: ks).map dKind := by simp
    rw [e2] at ih
    unfold w_read_book_1 at ih ⊢
    refine (whileM_step (e1 := [.fz (.str (S l)), .own (stO l (i + scL.length)), .own (.lst acc), .un]) (e2 := [.fz (.str (S l)), .own (stO l (i + scL.length + (kdT k).length)), .own (.lst (acc ++ [dKind k])), .un]) ?_ ?_ (by rw [ih]; rfl)).trans ih
    · have k := kn_3
      rw [lit_sc]
      generalize i + scL.length = j at *
      unfold stO at h1 ⊢
      unfold scL at h1
      clear ih h hs e2 h2 h3 h4 nx np hw hl o1 o2 o3 o4
      walk_at "evs"
    · have z : (acc.length < sizeLine) = True := eq_true (by unfold sizeLine; omega)
      unfold stO at h3 ⊢
      clear ih h hs e2 h2 h4 nx np hw hl o1 o2 o3 o4 h1
      generalize i + scL.length = j at *
      generalize j + (kdT k).length = j1 at *
      walk_at "evs"
end Sc.Law

set_option Elab.async false
set_option linter.all false
set_option autoImplicit false
set_option maxRecDepth 100000
set_option maxHeartbeats 2000000
namespace Sc.Law
open PySem L2 Sc
local macro_rules | `(tactic| walk_at "ev") => `(tactic| simp (config := { decide := false }) only [fnRun, seqM, ifS, orT, andT, notT, andM, orM, notM, testM, viewB, view, M.bind, M.pure, M.stuck, nameM, constM, bltM, viewAll, consA, nilA, retM, opM, chainM, isiM, tyName, strMM, tupM, lstM, freezeAll, freeze, setM, exprM, callM, callF, prep, lend, backM, wbAll, Rt.rv, iosOf, Arg.sl, List.map_cons, List.map_nil, List.length_cons, List.length_nil, Nat.zero_add, Nat.reduceAdd, Nat.reduceSub, Nat.reduceLT, List.replicate_succ, List.replicate_zero, List.cons_append, List.nil_append, List.getElem?_cons_zero, List.getElem?_cons_succ, List.set_cons_zero, List.set_cons_succ, methM, isObj, fldM, dget, putFM, objAt, putD, slOf, mutM, lstAt, raiseM, skipM, O.toD, leF, ltF, gtF, geF, subF, iiF, if_true, if_false, Bool.false_eq_true, lenF, Bool.not_true, Bool.not_false, decide_true, decide_false, kit_str_str, kit_str_tuple, kit_str_int, kit_str_bool, kit_int_str, kit_int_int, kit_int_bool, kit_int_tuple, kit_bool_int, kit_bool_bool, kit_bool_tuple, kit_bool_str, kit_tuple_tuple, kit_tuple_str, kit_tuple_int, kit_tuple_bool, kit_none_tuple, kit_none_str, kit_none_int, kit_none_bool, kit_list_tuple, kit_list_str, kit_list_int, nameG, tupGn, consG, nilG, if_pos, Nat.lt_add_one, ixF, appendF, Option.map_some, allF, all_tt, boolsOf_true, wipeE, restE, lcS, forS, freeze, tupGn, extendF, yesT, intF, putLM, rng1M, addF_ll, addF_ii, addF_tt, tupleF, sliceM, intM, dOpt, eqOF_int, neOF_int, inOF, Bool.false_xor, Bool.true_xor, Bool.true_and, Bool.and_true, sq0, sq1, sq2, sq3, sq4, sq5, sq6, sz0, sz1, sz2, sz3, sz4, sz5, sz6, lenSetM])
local macro_rules | `(tactic| walk_at "evs") => `(tactic| simp (config := { decide := false }) only [fnRun, seqM, ifS, orT, andT, notT, andM, orM, notM, testM, viewB, view, M.bind, M.pure, M.stuck, nameM, constM, bltM, viewAll, consA, nilA, retM, opM, chainM, isiM, tyName, strMM, tupM, lstM, freezeAll, freeze, setM, exprM, callM, callF, prep, lend, backM, wbAll, Rt.rv, iosOf, Arg.sl, List.map_cons, List.map_nil, List.length_cons, List.length_nil, Nat.zero_add, Nat.reduceAdd, Nat.reduceSub, Nat.reduceLT, List.replicate_succ, List.replicate_zero, List.cons_append, List.nil_append, List.getElem?_cons_zero, List.getElem?_cons_succ, List.set_cons_zero, List.set_cons_succ, methM, isObj, fldM, dget, putFM, objAt, putD, slOf, mutM, lstAt, raiseM, skipM, O.toD, leF, ltF, gtF, geF, subF, iiF, if_true, if_false, Bool.false_eq_true, lenF, Bool.not_true, Bool.not_false, decide_true, decide_false, kit_str_str, kit_str_tuple, kit_str_int, kit_str_bool, kit_int_str, kit_int_int, kit_int_bool, kit_int_tuple, kit_bool_int, kit_bool_bool, kit_bool_tuple, kit_bool_str, kit_tuple_tuple, kit_tuple_str, kit_tuple_int, kit_tuple_bool, kit_none_tuple, kit_none_str, kit_none_int, kit_none_bool, kit_list_tuple, kit_list_str, kit_list_int, nameG, tupGn, consG, nilG, if_pos, Nat.lt_add_one, ixF, appendF, Option.map_some, allF, all_tt, boolsOf_true, wipeE, restE, lcS, forS, freeze, tupGn, extendF, yesT, intF, putLM, rng1M, addF_ll, addF_ii, addF_tt, tupleF, sliceM, intM, dOpt, eqOF_int, neOF_int, inOF, Bool.false_xor, Bool.true_xor, Bool.true_and, Bool.and_true, sq0, sq1, sq2, sq3, sq4, sq5, sq6, sz0, sz1, sz2, sz3, sz4, sz5, sz6, lenSetM, *])
theorem t_strip_of (n : Nat) (l : List Nat) : T (n + 2) .strip_of [.fz (.str (S l))] = .ret (.own (stO l 0)) [.fz (.str (S l))] := by
  show fnRun 1 (b_strip_of (T (n + 1))) _ = _
  have h1 := t_init n l
  unfold b_strip_of
  unfold stO at h1 ⊢
  simp only [newM, newF]
  walk_at "evs"
  simp only [newF]
  walk_at "evs"
theorem wd_num : Wd numL := ⟨by decide, by decide, by decide⟩
theorem Bk.fw {b : Book} (B : Bk b) : ∀ k ∈ b, ∀ m ∈ k.2, MkOk m := fun k hk m hm => ⟨B.mw k hk m hm, fun f hf => by
  have := B.fk k hk m hm f hf
  simp only [List.mem_cons] at this
  rcases this with h | h
  · rw [h]; exact wd_num
  · obtain ⟨k', hk', rfl⟩ := List.mem_map.mp h
    exact B.kw k' hk', by have := B.f4 k hk m hm; omega⟩
theorem t_read_book (n : Nat) {b : Book} (B : Bk b) (hs : (bkT b).length ≤ 10000) : T (n + 6) .read_book [.fz (.str (S (bkT b)))] = .ret (.fz (dBook b)) [.fz (.str (S (bkT b)))] := by
  show fnRun 4 (b_read_book (T (n + 5))) _ = _
  have h0 := t_strip_of (n + 3) (bkT b)
  have hb := t_is_book (n + 1) B
  unfold b_read_book
  match b, B with
  | [], B => have := B.n1; simp at this
  | k :: ks, B =>
    have eb : bkT (k :: ks) = kdT k ++ ks.flatMap (fun k => scL ++ kdT k) := by simp [bkT, joinT_cons, List.flatMap_map]
    have ha := At.zero (bkT (k :: ks))
    rw [eb] at ha hs h0 ⊢
    generalize el : kdT k ++ ks.flatMap (fun k => scL ++ kdT k) = l at *
    rw [← el] at ha
    have hall : ∀ k' ∈ k :: ks, Wd k'.1 ∧ (∀ m ∈ k'.2, MkOk m) ∧ 1 ≤ k'.2.length ∧ k'.2.length ≤ 100 := fun k' hk => ⟨B.kw k' hk, B.fw k' hk, B.m1 k' hk, by have := B.m6 k' hk; omega⟩
    obtain ⟨o1, o2, o3, o4⟩ := hall k (by simp)
    have nx : Nx (ks.flatMap (fun k => scL ++ kdT k)) := by
      cases ks with
      | nil => exact nx_nil
      | cons v vs => simp only [List.flatMap_cons, List.append_assoc]; exact nx_sc _
    have np : orL.isPrefixOf (ks.flatMap (fun k => scL ++ kdT k)) = false := by
      cases ks with
      | nil => rfl
      | cons v vs => simp [scL, orL, List.isPrefixOf]
    rw [el] at ha
    have ha' : At l 0 (kdT k ++ ks.flatMap (fun k => scL ++ kdT k)) := by rw [el]; exact ha
    have h3 := t_kind_read n hs k ha' o1 o2 o3 o4 nx np
    have h4 := ha'.step
    have n6 := B.n6
    simp only [List.length_cons] at n6
    have h5 := w_kinds n hs ks [dKind k] h4 (fun k' hk => hall k' (by simp [hk])) (by simp; omega)
    have h6 := t_ends_well (n + 3) (At.mk (l := l) (i := l.length) (r := []) (by omega) (by simp)) hs
    have k6 := kn_6
    have e9 : dBook (k :: ks) = .tup ([dKind k] ++ ks.map dKind) := by simp [dBook]
    rw [e9] at hb ⊢
    unfold stO at *
    generalize 0 + (kdT k).length = j at *
    clear h4 n6 nx np o1 o2 o3 o4 hall ha ha' hs el B eb
    simp only [List.cons_append, List.nil_append] at hb h5 ⊢
    walk_at "evs"
end Sc.Law

set_option Elab.async false
set_option linter.all false
set_option autoImplicit false
set_option maxRecDepth 100000
set_option maxHeartbeats 2000000
namespace Sc.Law
open PySem L2 Sc
local macro_rules | `(tactic| walk_at "ev") => `(tactic| simp (config := { decide := false }) only [fnRun, seqM, ifS, orT, andT, notT, andM, orM, notM, testM, viewB, view, M.bind, M.pure, M.stuck, nameM, constM, bltM, viewAll, consA, nilA, retM, opM, chainM, isiM, tyName, strMM, tupM, lstM, freezeAll, freeze, setM, exprM, callM, callF, prep, lend, backM, wbAll, Rt.rv, iosOf, Arg.sl, List.map_cons, List.map_nil, List.length_cons, List.length_nil, Nat.zero_add, Nat.reduceAdd, Nat.reduceSub, Nat.reduceLT, List.replicate_succ, List.replicate_zero, List.cons_append, List.nil_append, List.getElem?_cons_zero, List.getElem?_cons_succ, List.set_cons_zero, List.set_cons_succ, methM, isObj, fldM, dget, putFM, objAt, putD, slOf, mutM, lstAt, raiseM, skipM, O.toD, leF, ltF, gtF, geF, subF, iiF, if_true, if_false, Bool.false_eq_true, lenF, Bool.not_true, Bool.not_false, decide_true, decide_false, kit_str_str, kit_str_tuple, kit_str_int, kit_str_bool, kit_int_str, kit_int_int, kit_int_bool, kit_int_tuple, kit_bool_int, kit_bool_bool, kit_bool_tuple, kit_bool_str, kit_tuple_tuple, kit_tuple_str, kit_tuple_int, kit_tuple_bool, kit_none_tuple, kit_none_str, kit_none_int, kit_none_bool, kit_list_tuple, kit_list_str, kit_list_int, nameG, tupGn, consG, nilG, if_pos, Nat.lt_add_one, ixF, appendF, Option.map_some, allF, all_tt, boolsOf_true, wipeE, restE, lcS, forS, freeze, tupGn, extendF, yesT, intF, putLM, rng1M, addF_ll, addF_ii, addF_tt, tupleF, sliceM, intM, dOpt, eqOF_int, neOF_int, inOF, Bool.false_xor, Bool.true_xor, Bool.true_and, Bool.and_true, sq0, sq1, sq2, sq3, sq4, sq5, sq6, sz0, sz1, sz2, sz3, sz4, sz5, sz6, lenSetM])
local macro_rules | `(tactic| walk_at "evs") => `(tactic| simp (config := { decide := false }) only [fnRun, seqM, ifS, orT, andT, notT, andM, orM, notM, testM, viewB, view, M.bind, M.pure, M.stuck, nameM, constM, bltM, viewAll, consA, nilA, retM, opM, chainM, isiM, tyName, strMM, tupM, lstM, freezeAll, freeze, setM, exprM, callM, callF, prep, lend, backM, wbAll, Rt.rv, iosOf, Arg.sl, List.map_cons, List.map_nil, List.length_cons, List.length_nil, Nat.zero_add, Nat.reduceAdd, Nat.reduceSub, Nat.reduceLT, List.replicate_succ, List.replicate_zero, List.cons_append, List.nil_append, List.getElem?_cons_zero, List.getElem?_cons_succ, List.set_cons_zero, List.set_cons_succ, methM, isObj, fldM, dget, putFM, objAt, putD, slOf, mutM, lstAt, raiseM, skipM, O.toD, leF, ltF, gtF, geF, subF, iiF, if_true, if_false, Bool.false_eq_true, lenF, Bool.not_true, Bool.not_false, decide_true, decide_false, kit_str_str, kit_str_tuple, kit_str_int, kit_str_bool, kit_int_str, kit_int_int, kit_int_bool, kit_int_tuple, kit_bool_int, kit_bool_bool, kit_bool_tuple, kit_bool_str, kit_tuple_tuple, kit_tuple_str, kit_tuple_int, kit_tuple_bool, kit_none_tuple, kit_none_str, kit_none_int, kit_none_bool, kit_list_tuple, kit_list_str, kit_list_int, nameG, tupGn, consG, nilG, if_pos, Nat.lt_add_one, ixF, appendF, Option.map_some, allF, all_tt, boolsOf_true, wipeE, restE, lcS, forS, freeze, tupGn, extendF, yesT, intF, putLM, rng1M, addF_ll, addF_ii, addF_tt, tupleF, sliceM, intM, dOpt, eqOF_int, neOF_int, inOF, Bool.false_xor, Bool.true_xor, Bool.true_and, Bool.and_true, sq0, sq1, sq2, sq3, sq4, sq5, sq6, sz0, sz1, sz2, sz3, sz4, sz5, sz6, lenSetM, *])
theorem flat_le (sep : List Nat) (M : Nat) : ∀ ls : List (List Nat), (∀ x ∈ ls, x.length ≤ M) → (ls.flatMap (sep ++ ·)).length ≤ ls.length * (M + sep.length)
  | [], _ => by simp
  | x :: xs, h => by
    have h1 := flat_le sep M xs fun y hy => h y (by simp [hy])
    have h2 := h x (by simp)
    simp only [List.flatMap_cons, List.length_append, List.length_cons, Nat.succ_mul]
    omega
theorem joinT_le (sep : List Nat) (M : Nat) : ∀ ls : List (List Nat), (∀ x ∈ ls, x.length ≤ M) → (joinT sep ls).length ≤ ls.length * (M + sep.length)
  | [], _ => by simp [joinT]
  | x :: xs, h => by
    rw [joinT_cons]
    have h1 := flat_le sep M xs fun y hy => h y (by simp [hy])
    have h2 := h x (by simp)
    simp only [List.length_append, List.length_cons, Nat.succ_mul]
    omega
theorem t_in_brackets (n : Nat) (nm : List Nat) (ws : List (List Nat)) (h1 : nm.length ≤ 1000) (h2 : (joinT [32] ws).length ≤ 1000) (h3 : ws.length ≤ 100) :
    T (n + 1) .in_brackets [.fz (.str (S nm)), .fz (.tup (ws.map dStr))] = .ret (.fz (.str (S (nm ++ brT ws)))) [.fz (.str (S nm)), .fz (.tup (ws.map dStr))] := by
  show fnRun 2 (b_in_brackets (T n)) _ = _
  unfold b_in_brackets
  rw [lit_lp, lit_rp, lit_sp]
  have j : joinL (S [32]) (ws.map dStr) = some (.fz (.str (S (joinT [32] ws)))) := joinL_S (by omega) (by decide)
  cases ws with
  | nil =>
    have e : brT [] = [] := rfl
    simp only [e, List.append_nil, List.map_nil]
    clear h1 h2 h3 j
    walk_at "ev"
    rfl
  | cons w ws =>
    have e : nm ++ brT (w :: ws) = nm ++ [40] ++ joinT [32] (w :: ws) ++ [41] := by simp [brT]
    rw [e]
    have a1 := addS (a := nm) (b := [40]) (by simp; omega)
    have a2 := addS (a := nm ++ [40]) (b := joinT [32] (w :: ws)) (by simp; omega)
    have a3 := addS (a := nm ++ [40] ++ joinT [32] (w :: ws)) (b := [41]) (by simp; omega)
    have z : ((((w :: ws).map dStr).length : Int) == 0) = false := by simp; omega
    generalize (w :: ws).map dStr = ds at *
    generalize joinT [32] (w :: ws) = jt at *
    generalize nm ++ [40] = t1 at *
    generalize t1 ++ jt = t2 at *
    clear e h1 h2 h3
    walk_at "evs"
    simp only [joinF, j]
    walk_at "evs"
theorem t_law_bracketed (n : Nat) (nm : List Nat) (ws : List (List Nat)) (h1 : nm.length ≤ 1000) (h2 : (joinT [32] ws).length ≤ 1000) (h3 : ws.length ≤ 100) :
    T (n + 1) ._law_bracketed [.fz (.str (S nm)), .fz (.tup (ws.map dStr))] = .ret (.fz (.str (S (nm ++ brT ws)))) [.fz (.str (S nm)), .fz (.tup (ws.map dStr))] := by
  show fnRun 2 (b__law_bracketed (T n)) _ = _
  unfold b__law_bracketed
  rw [lit_lp, lit_rp, lit_sp]
  have j : joinL (S [32]) (ws.map dStr) = some (.fz (.str (S (joinT [32] ws)))) := joinL_S (by omega) (by decide)
  cases ws with
  | nil =>
    have e : brT [] = [] := rfl
    simp only [e, List.append_nil, List.map_nil]
    clear h1 h2 h3 j
    walk_at "ev"
    rfl
  | cons w ws =>
    have e : nm ++ brT (w :: ws) = nm ++ [40] ++ joinT [32] (w :: ws) ++ [41] := by simp [brT]
    rw [e]
    have a1 := addS (a := nm) (b := [40]) (by simp; omega)
    have a2 := addS (a := nm ++ [40]) (b := joinT [32] (w :: ws)) (by simp; omega)
    have a3 := addS (a := nm ++ [40] ++ joinT [32] (w :: ws)) (b := [41]) (by simp; omega)
    have z : ((((w :: ws).map dStr).length : Int) == 0) = false := by simp; omega
    generalize (w :: ws).map dStr = ds at *
    generalize joinT [32] (w :: ws) = jt at *
    generalize nm ++ [40] = t1 at *
    generalize t1 ++ jt = t2 at *
    clear e h1 h2 h3
    walk_at "evs"
    simp only [joinF, j]
    walk_at "evs"

/-- how long the parts of a book's text may be -/
structure MkSz (m : Mk0) : Prop where
  a : m.1.length ≤ 8
  b : m.2.length ≤ 4
  c : ∀ f ∈ m.2, f.length ≤ 8
theorem MkSz.j {m : Mk0} (h : MkSz m) : (joinT [32] m.2).length ≤ 36 := by
  have h1 := joinT_le [32] 8 m.2 h.c
  have h2 := h.b
  simp only [List.length_cons, List.length_nil] at h1
  omega
theorem MkSz.t {m : Mk0} (h : MkSz m) : (mkT m).length ≤ 46 := by
  have h1 := h.j
  have h2 := h.a
  unfold mkT brT
  split
  · simp; omega
  · simp only [List.length_append, List.length_cons, List.length_nil]; omega
structure KdSz (k : Kd) : Prop where
  a : k.1.length ≤ 8
  b : k.2.length ≤ 6
  c : ∀ m ∈ k.2, MkSz m
theorem KdSz.j {k : Kd} (h : KdSz k) : (joinT orL (k.2.map mkT)).length ≤ 294 := by
  have h1 := joinT_le orL 46 (k.2.map mkT) (fun x hx => by obtain ⟨m, hm, rfl⟩ := List.mem_map.mp hx; exact (h.c m hm).t)
  have h2 := h.b
  simp only [List.length_map, show orL.length = 3 from rfl] at h1
  omega
theorem KdSz.t {k : Kd} (h : KdSz k) : (kdT k).length ≤ 305 := by
  have h1 := h.j
  have h2 := h.a
  unfold kdT eqL
  simp only [List.length_append, List.length_cons, List.length_nil]; omega
theorem bk_sz {b : Book} (h6 : b.length ≤ 6) (h : ∀ k ∈ b, KdSz k) : (bkT b).length ≤ 1842 := by
  have h1 := joinT_le scL 305 (b.map kdT) (fun x hx => by obtain ⟨m, hm, rfl⟩ := List.mem_map.mp hx; exact (h m hm).t)
  simp only [List.length_map, show scL.length = 2 from rfl] at h1
  unfold bkT
  omega
theorem Bk.sz {b : Book} (B : Bk b) : ∀ k ∈ b, KdSz k := fun k hk => ⟨(B.kw k hk).eight, B.m6 k hk, fun m hm => ⟨(B.mw k hk m hm).eight, B.f4 k hk m hm, fun f hf => ((B.fw k hk m hm).f f hf).eight⟩⟩
theorem c_written (n : Nat) (k : Kd) (h : KdSz k) (bd tx nm : Sl) : c_written_book_1 (T (n + 1)) [bd, tx, nm, .fz (.tup (k.2.map dMake)), .un, .un] = .ok (.own (.lst (k.2.map fun m => .str (S (mkT m))))) [bd, tx, nm, .fz (.tup (k.2.map dMake)), .un, .un] := by
  unfold c_written_book_1
  refine lcM_map dMake (fun m => .str (S (mkT m))) k.2 (e1 := [bd, tx, nm, .fz (.tup (k.2.map dMake)), .un, .un]) rfl rfl (by have := h.b; unfold sizeLine; omega) (fun m hm => ?_) rfl
  have ok := h.c m hm
  have h1 := t_in_brackets n m.1 m.2 (by have := ok.a; omega) (by have := ok.j; omega) (by have := ok.b; omega)
  refine ⟨[bd, tx, nm, .fz (.tup (k.2.map dMake)), .fz (.str (S m.1)), .fz (.tup (m.2.map dStr))], ?_, rfl⟩
  clear hm h ok
  unfold mkT dMake
  walk_at "evs"
theorem c_book_text (n : Nat) (k : Kd) (h : KdSz k) (bd tx nm : Sl) : c__law_book_text_1 (T (n + 1)) [bd, tx, nm, .fz (.tup (k.2.map dMake)), .un] = .ok (.own (.lst (k.2.map fun m => .str (S (mkT m))))) [bd, tx, nm, .fz (.tup (k.2.map dMake)), .un] := by
  unfold c__law_book_text_1
  refine lcM_map dMake (fun m => .str (S (mkT m))) k.2 (e1 := [bd, tx, nm, .fz (.tup (k.2.map dMake)), .un]) rfl rfl (by have := h.b; unfold sizeLine; omega) (fun m hm => ?_) rfl
  have ok := h.c m hm
  have h1 := t_law_bracketed n m.1 m.2 (by have := ok.a; omega) (by have := ok.j; omega) (by have := ok.b; omega)
  refine ⟨[bd, tx, nm, .fz (.tup (k.2.map dMake)), .fz (dMake m)], ?_, rfl⟩
  have a0 : atI [D.str (S m.1), D.tup (m.2.map dStr)] 0 = some (.str (S m.1)) := rfl
  have a1 : atI [D.str (S m.1), D.tup (m.2.map dStr)] 1 = some (.tup (m.2.map dStr)) := rfl
  clear hm h ok
  unfold mkT
  unfold dMake at *
  walk_at "evs"
theorem t_written_book (n : Nat) {b : Book} (h6 : b.length ≤ 6) (h : ∀ k ∈ b, KdSz k) : T (n + 2) .written_book [.fz (dBook b)] = .ret (.fz (.str (S (bkT b)))) [.fz (dBook b)] := by
  show fnRun 6 (b_written_book (T (n + 1))) _ = _
  unfold b_written_book
  obtain ⟨e', hl, s2, s3, rfl⟩ : ∃ e', l_written_book_1 (T (n + 1)) [.fz (dBook b), .own (.lst []), .un, .un, .un, .un] = .ok .nx e' ∧ ∃ s2 s3, e' = [.fz (dBook b), .own (.lst (b.map fun k => .str (S (kdT k)))), s2, s3, .un, .un] := by
    unfold l_written_book_1
    refine forM_all dKind (fun p e => ∃ s2 s3, e = [.fz (dBook b), .own (.lst (p.map fun k => .str (S (kdT k)))), s2, s3, .un, .un]) b _ rfl ⟨.un, .un, rfl⟩ (fun p x q e hx ⟨a, c, he⟩ => ?_)
    subst he
    have hxb : x ∈ b := by rw [hx]; simp
    have hl := congrArg List.length hx
    simp only [List.length_append, List.length_cons] at hl
    have sz := h x hxb
    have hc := c_written n x sz (.fz (dBook b)) (.own (.lst (p.map fun k => .str (S (kdT k))))) (.fz (.str (S x.1)))
    refine ⟨[.fz (dBook b), .own (.lst ((p ++ [x]).map fun k => .str (S (kdT k)))), .fz (.str (S x.1)), .fz (.tup (x.2.map dMake)), .un, .un], ?_, _, _, rfl⟩
    have a1 := addS (a := x.1) (b := eqL) (by have := sz.a; simp [eqL]; omega)
    have a2 := addS (a := x.1 ++ eqL) (b := joinT orL (x.2.map mkT)) (by have := sz.a; have := sz.j; simp [eqL]; omega)
    have j : joinL (S orL) (x.2.map fun m => .str (S (mkT m))) = some (.fz (.str (S (joinT orL (x.2.map mkT))))) := by
      have := joinL_S (sep := orL) (ls := x.2.map mkT) (by have := sz.j; omega) (by decide)
      rw [List.map_map] at this
      exact this
    have z : ((p.map fun k => D.str (S (kdT k))).length < sizeLine) = True := eq_true (by simp; unfold sizeLine; omega)
    have e1 : (p ++ [x]).map (fun k => D.str (S (kdT k))) = p.map (fun k => D.str (S (kdT k))) ++ [D.str (S (kdT x))] := by simp
    have e2 : kdT x = x.1 ++ eqL ++ joinT orL (x.2.map mkT) := rfl
    rw [e1, e2, lit_eq, lit_or]
    unfold dKind
    unfold eqL orL at *
    clear e1 e2 hl hxb hx sz h h6
    generalize x.1 ++ [32, 61, 32] = t1 at *
    generalize joinT [32, 124, 32] (x.2.map mkT) = t2 at *
    walk_at "evs"
    simp only [joinF, j]
    walk_at "evs"
  have j : joinL (S scL) (b.map fun m => .str (S (kdT m))) = some (.fz (.str (S (bkT b)))) := by
    have := joinL_S (sep := scL) (ls := b.map kdT) (by have := bk_sz h6 h; unfold bkT at this; omega) (by decide)
    rw [List.map_map] at this
    exact this
  rw [lit_sc]
  unfold scL at j
  clear h6 h
  walk_at "evs"
  simp only [joinF, j]
  walk_at "evs"
theorem t_book_text (n : Nat) {b : Book} (h6 : b.length ≤ 6) (h : ∀ k ∈ b, KdSz k) : T (n + 2) ._law_book_text [.fz (dBook b)] = .ret (.fz (.str (S (bkT b)))) [.fz (dBook b)] := by
  show fnRun 5 (b__law_book_text (T (n + 1))) _ = _
  unfold b__law_book_text
  obtain ⟨e', hl, s2, s3, rfl⟩ : ∃ e', l__law_book_text_1 (T (n + 1)) [.fz (dBook b), .own (.lst []), .un, .un, .un] = .ok .nx e' ∧ ∃ s2 s3, e' = [.fz (dBook b), .own (.lst (b.map fun k => .str (S (kdT k)))), s2, s3, .un] := by
    unfold l__law_book_text_1
    refine forM_all dKind (fun p e => ∃ s2 s3, e = [.fz (dBook b), .own (.lst (p.map fun k => .str (S (kdT k)))), s2, s3, .un]) b _ rfl ⟨.un, .un, rfl⟩ (fun p x q e hx ⟨a, c, he⟩ => ?_)
    subst he
    have hxb : x ∈ b := by rw [hx]; simp
    have hl := congrArg List.length hx
    simp only [List.length_append, List.length_cons] at hl
    have sz := h x hxb
    have hc := c_book_text n x sz (.fz (dBook b)) (.own (.lst (p.map fun k => .str (S (kdT k))))) (.fz (.str (S x.1)))
    refine ⟨[.fz (dBook b), .own (.lst ((p ++ [x]).map fun k => .str (S (kdT k)))), .fz (.str (S x.1)), .fz (.tup (x.2.map dMake)), .un], ?_, _, _, rfl⟩
    have a1 := addS (a := x.1) (b := eqL) (by have := sz.a; simp [eqL]; omega)
    have a2 := addS (a := x.1 ++ eqL) (b := joinT orL (x.2.map mkT)) (by have := sz.a; have := sz.j; simp [eqL]; omega)
    have j : joinL (S orL) (x.2.map fun m => .str (S (mkT m))) = some (.fz (.str (S (joinT orL (x.2.map mkT))))) := by
      have := joinL_S (sep := orL) (ls := x.2.map mkT) (by have := sz.j; omega) (by decide)
      rw [List.map_map] at this
      exact this
    have z : ((p.map fun k => D.str (S (kdT k))).length < sizeLine) = True := eq_true (by simp; unfold sizeLine; omega)
    have e1 : (p ++ [x]).map (fun k => D.str (S (kdT k))) = p.map (fun k => D.str (S (kdT k))) ++ [D.str (S (kdT x))] := by simp
    have e2 : kdT x = x.1 ++ eqL ++ joinT orL (x.2.map mkT) := rfl
    rw [e1, e2, lit_eq, lit_or]
    unfold dKind
    unfold eqL orL at *
    clear e1 e2 hl hxb hx sz h h6
    generalize x.1 ++ [32, 61, 32] = t1 at *
    generalize joinT [32, 124, 32] (x.2.map mkT) = t2 at *
    walk_at "evs"
    simp only [joinF, j]
    walk_at "evs"
  have j : joinL (S scL) (b.map fun m => .str (S (kdT m))) = some (.fz (.str (S (bkT b)))) := by
    have := joinL_S (sep := scL) (ls := b.map kdT) (by have := bk_sz h6 h; unfold bkT at this; omega) (by decide)
    rw [List.map_map] at this
    exact this
  rw [lit_sc]
  unfold scL at j
  clear h6 h
  walk_at "evs"
  simp only [joinF, j]
  walk_at "evs"
end Sc.Law

set_option Elab.async false
set_option linter.all false
set_option autoImplicit false
set_option maxRecDepth 100000
set_option maxHeartbeats 2000000
namespace Sc.Law
open PySem L2 Sc
local macro_rules | `(tactic| walk_at "ev") => `(tactic| simp (config := { decide := false }) only [fnRun, seqM, ifS, orT, andT, notT, andM, orM, notM, testM, viewB, view, M.bind, M.pure, M.stuck, nameM, constM, bltM, viewAll, consA, nilA, retM, opM, chainM, isiM, tyName, strMM, tupM, lstM, freezeAll, freeze, setM, exprM, callM, callF, prep, lend, backM, wbAll, Rt.rv, iosOf, Arg.sl, List.map_cons, List.map_nil, List.length_cons, List.length_nil, Nat.zero_add, Nat.reduceAdd, Nat.reduceSub, Nat.reduceLT, List.replicate_succ, List.replicate_zero, List.cons_append, List.nil_append, List.getElem?_cons_zero, List.getElem?_cons_succ, List.set_cons_zero, List.set_cons_succ, methM, isObj, fldM, dget, putFM, objAt, putD, slOf, mutM, lstAt, raiseM, skipM, O.toD, leF, ltF, gtF, geF, subF, iiF, if_true, if_false, Bool.false_eq_true, lenF, Bool.not_true, Bool.not_false, decide_true, decide_false, kit_str_str, kit_str_tuple, kit_str_int, kit_str_bool, kit_int_str, kit_int_int, kit_int_bool, kit_int_tuple, kit_bool_int, kit_bool_bool, kit_bool_tuple, kit_bool_str, kit_tuple_tuple, kit_tuple_str, kit_tuple_int, kit_tuple_bool, kit_none_tuple, kit_none_str, kit_none_int, kit_none_bool, kit_list_tuple, kit_list_str, kit_list_int, nameG, tupGn, consG, nilG, if_pos, Nat.lt_add_one, ixF, appendF, Option.map_some, allF, all_tt, boolsOf_true, wipeE, restE, lcS, forS, freeze, tupGn, extendF, yesT, intF, putLM, rng1M, addF_ll, addF_ii, addF_tt, tupleF, sliceM, intM, dOpt, eqOF_int, neOF_int, inOF, Bool.false_xor, Bool.true_xor, Bool.true_and, Bool.and_true, sq0, sq1, sq2, sq3, sq4, sq5, sq6, sz0, sz1, sz2, sz3, sz4, sz5, sz6, lenSetM])
local macro_rules | `(tactic| walk_at "evs") => `(tactic| simp (config := { decide := false }) only [fnRun, seqM, ifS, orT, andT, notT, andM, orM, notM, testM, viewB, view, M.bind, M.pure, M.stuck, nameM, constM, bltM, viewAll, consA, nilA, retM, opM, chainM, isiM, tyName, strMM, tupM, lstM, freezeAll, freeze, setM, exprM, callM, callF, prep, lend, backM, wbAll, Rt.rv, iosOf, Arg.sl, List.map_cons, List.map_nil, List.length_cons, List.length_nil, Nat.zero_add, Nat.reduceAdd, Nat.reduceSub, Nat.reduceLT, List.replicate_succ, List.replicate_zero, List.cons_append, List.nil_append, List.getElem?_cons_zero, List.getElem?_cons_succ, List.set_cons_zero, List.set_cons_succ, methM, isObj, fldM, dget, putFM, objAt, putD, slOf, mutM, lstAt, raiseM, skipM, O.toD, leF, ltF, gtF, geF, subF, iiF, if_true, if_false, Bool.false_eq_true, lenF, Bool.not_true, Bool.not_false, decide_true, decide_false, kit_str_str, kit_str_tuple, kit_str_int, kit_str_bool, kit_int_str, kit_int_int, kit_int_bool, kit_int_tuple, kit_bool_int, kit_bool_bool, kit_bool_tuple, kit_bool_str, kit_tuple_tuple, kit_tuple_str, kit_tuple_int, kit_tuple_bool, kit_none_tuple, kit_none_str, kit_none_int, kit_none_bool, kit_list_tuple, kit_list_str, kit_list_int, nameG, tupGn, consG, nilG, if_pos, Nat.lt_add_one, ixF, appendF, Option.map_some, allF, all_tt, boolsOf_true, wipeE, restE, lcS, forS, freeze, tupGn, extendF, yesT, intF, putLM, rng1M, addF_ll, addF_ii, addF_tt, tupleF, sliceM, intM, dOpt, eqOF_int, neOF_int, inOF, Bool.false_xor, Bool.true_xor, Bool.true_and, Bool.and_true, sq0, sq1, sq2, sq3, sq4, sq5, sq6, sz0, sz1, sz2, sz3, sz4, sz5, sz6, lenSetM, *])
theorem beq_S (l : List Nat) : (S l == S l) = true := by simp
theorem t_alike_str (n : Nat) {l : List Nat} (h : okT l) : T (n + 1) ._law_alike [.fz (.str (S l)), .fz (.str (S l))] = .ret (.fz (.bl true)) [.fz (.str (S l)), .fz (.str (S l))] := by
  show fnRun 4 (b__law_alike (T n)) _ = _
  unfold b__law_alike
  have e := eqOF_S h h
  rw [beq_S] at e
  clear h
  walk_at "evs"
theorem pairs_self : ∀ ds : List D, pairsD ds ds = ds.map fun d => .tup [d, d]
  | [] => rfl
  | d :: ds => by rw [List.map_cons, ← pairs_self ds]; rfl
theorem c_alike (n : Nat) (ds : List D) (hs : ds.length ≤ 10000) (h : ∀ d ∈ ds, T n ._law_alike [.fz d, .fz d] = .ret (.fz (.bl true)) [.fz d, .fz d]) :
    c__law_alike_1 (T n) [.fz (.tup ds), .fz (.tup ds), .un, .un] = .ok (.own (.lst (ds.map fun _ => .bl true))) [.fz (.tup ds), .fz (.tup ds), .un, .un] := by
  unfold c__law_alike_1
  refine lcM_map (fun d => .tup [d, d]) (fun _ => .bl true) ds (e1 := [.fz (.tup ds), .fz (.tup ds), .un, .un]) (by rw [← pairs_self]; rfl) rfl (by unfold sizeLine; omega) (fun d hd => ?_) rfl
  have h1 := h d hd
  refine ⟨[.fz (.tup ds), .fz (.tup ds), .fz d, .fz d], ?_, rfl⟩
  clear h hs hd
  walk_at "evs"
theorem t_alike_tup (n : Nat) (ds : List D) (hs : ds.length ≤ 10000) (h : ∀ d ∈ ds, T n ._law_alike [.fz d, .fz d] = .ret (.fz (.bl true)) [.fz d, .fz d]) :
    T (n + 1) ._law_alike [.fz (.tup ds), .fz (.tup ds)] = .ret (.fz (.bl true)) [.fz (.tup ds), .fz (.tup ds)] := by
  show fnRun 4 (b__law_alike (T n)) _ = _
  unfold b__law_alike
  have hc := c_alike n ds hs h
  have e := neOF_int (ds.length : Int) (ds.length : Int)
  rw [show ((ds.length : Int) == (ds.length : Int)) = true by simp] at e
  simp only [Bool.not_true] at e
  have z : (ds.length ≤ sizeLine) = True := eq_true (by unfold sizeLine; omega)
  clear h hs
  walk_at "evs"
theorem okT_az {l : List Nat} (h : Wd l) : okT l := fun c hc => by have := h.az c hc; omega
theorem t_alike_book (n : Nat) {b : Book} (B : Bk b) : T (n + 6) ._law_alike [.fz (dBook b), .fz (dBook b)] = .ret (.fz (.bl true)) [.fz (dBook b), .fz (dBook b)] := by
  unfold dBook
  refine t_alike_tup (n + 5) _ (by have := B.n6; simp; omega) fun d hd => ?_
  obtain ⟨k, hk, rfl⟩ := List.mem_map.mp hd
  unfold dKind
  refine t_alike_tup (n + 4) _ (by simp) fun d hd => ?_
  simp only [List.mem_cons, List.not_mem_nil, or_false] at hd
  rcases hd with rfl | rfl
  · exact t_alike_str (n + 3) (okT_az (B.kw k hk))
  refine t_alike_tup (n + 3) _ (by have := B.m6 k hk; simp; omega) fun d hd => ?_
  obtain ⟨m, hm, rfl⟩ := List.mem_map.mp hd
  unfold dMake
  refine t_alike_tup (n + 2) _ (by simp) fun d hd => ?_
  simp only [List.mem_cons, List.not_mem_nil, or_false] at hd
  rcases hd with rfl | rfl
  · exact t_alike_str (n + 1) (okT_az (B.mw k hk m hm))
  refine t_alike_tup (n + 1) _ (by have := B.f4 k hk m hm; simp; omega) fun d hd => ?_
  obtain ⟨f, hf, rfl⟩ := List.mem_map.mp hd
  exact t_alike_str n (okT_az ((B.fw k hk m hm).f f hf))
/-- the signs of a book's text -/
theorem okT_app {a b : List Nat} : okT (a ++ b) ↔ okT a ∧ okT b := by
  unfold okT
  constructor
  · intro h; exact ⟨fun c hc => h c (by simp [hc]), fun c hc => h c (by simp [hc])⟩
  · rintro ⟨h1, h2⟩ c hc
    rcases List.mem_append.mp hc with h | h
    · exact h1 c h
    · exact h2 c h
theorem okT_join {sep : List Nat} (hs : okT sep) : ∀ {ls : List (List Nat)}, (∀ l ∈ ls, okT l) → okT (joinT sep ls)
  | [], _ => by intro c hc; simp [joinT] at hc
  | x :: xs, h => by
    rw [joinT_cons, okT_app]
    refine ⟨h x (by simp), fun c hc => ?_⟩
    obtain ⟨y, hy, hc⟩ := List.mem_flatMap.mp hc
    rcases List.mem_append.mp hc with q | q
    · exact hs c q
    · exact h y (by simp [hy]) c q
theorem okT_lit {l : List Nat} (h : l.all (fun c => decide (c < 0x110000)) = true) : okT l := fun c hc => by
  have := List.all_eq_true.mp h c hc
  simpa using this
theorem okT_bk {b : Book} (B : Bk b) : okT (bkT b) := by
  refine okT_join (okT_lit rfl) fun l hl => ?_
  obtain ⟨k, hk, rfl⟩ := List.mem_map.mp hl
  unfold kdT
  rw [okT_app, okT_app]
  refine ⟨⟨okT_az (B.kw k hk), okT_lit rfl⟩, okT_join (okT_lit rfl) fun l hl => ?_⟩
  obtain ⟨m, hm, rfl⟩ := List.mem_map.mp hl
  unfold mkT
  rw [okT_app]
  refine ⟨okT_az (B.mw k hk m hm), ?_⟩
  unfold brT
  split
  · exact okT_lit rfl
  · rw [show (40 :: joinT [32] m.2 ++ [41]) = [40] ++ joinT [32] m.2 ++ [41] from rfl, okT_app, okT_app]
    exact ⟨⟨okT_lit rfl, okT_join (okT_lit rfl) fun l hl => okT_az ((B.fw k hk m hm).f l hl)⟩, okT_lit rfl⟩
end Sc.Law

set_option Elab.async false
set_option linter.all false
set_option autoImplicit false
set_option maxRecDepth 100000
set_option maxHeartbeats 2000000
namespace Sc.Law
open PySem L2 Sc
local macro_rules | `(tactic| walk_at "ev") => `(tactic| simp (config := { decide := false }) only [fnRun, seqM, ifS, orT, andT, notT, andM, orM, notM, testM, viewB, view, M.bind, M.pure, M.stuck, nameM, constM, bltM, viewAll, consA, nilA, retM, opM, chainM, isiM, tyName, strMM, tupM, lstM, freezeAll, freeze, setM, exprM, callM, callF, prep, lend, backM, wbAll, Rt.rv, iosOf, Arg.sl, List.map_cons, List.map_nil, List.length_cons, List.length_nil, Nat.zero_add, Nat.reduceAdd, Nat.reduceSub, Nat.reduceLT, List.replicate_succ, List.replicate_zero, List.cons_append, List.nil_append, List.getElem?_cons_zero, List.getElem?_cons_succ, List.set_cons_zero, List.set_cons_succ, methM, isObj, fldM, dget, putFM, objAt, putD, slOf, mutM, lstAt, raiseM, skipM, O.toD, leF, ltF, gtF, geF, subF, iiF, if_true, if_false, Bool.false_eq_true, lenF, Bool.not_true, Bool.not_false, decide_true, decide_false, kit_str_str, kit_str_tuple, kit_str_int, kit_str_bool, kit_int_str, kit_int_int, kit_int_bool, kit_int_tuple, kit_bool_int, kit_bool_bool, kit_bool_tuple, kit_bool_str, kit_tuple_tuple, kit_tuple_str, kit_tuple_int, kit_tuple_bool, kit_none_tuple, kit_none_str, kit_none_int, kit_none_bool, kit_list_tuple, kit_list_str, kit_list_int, nameG, tupGn, consG, nilG, if_pos, Nat.lt_add_one, ixF, appendF, Option.map_some, allF, all_tt, boolsOf_true, wipeE, restE, lcS, forS, freeze, tupGn, extendF, yesT, intF, putLM, rng1M, addF_ll, addF_ii, addF_tt, tupleF, sliceM, intM, dOpt, eqOF_int, neOF_int, inOF, Bool.false_xor, Bool.true_xor, Bool.true_and, Bool.and_true, sq0, sq1, sq2, sq3, sq4, sq5, sq6, sz0, sz1, sz2, sz3, sz4, sz5, sz6, lenSetM])
local macro_rules | `(tactic| walk_at "evs") => `(tactic| simp (config := { decide := false }) only [fnRun, seqM, ifS, orT, andT, notT, andM, orM, notM, testM, viewB, view, M.bind, M.pure, M.stuck, nameM, constM, bltM, viewAll, consA, nilA, retM, opM, chainM, isiM, tyName, strMM, tupM, lstM, freezeAll, freeze, setM, exprM, callM, callF, prep, lend, backM, wbAll, Rt.rv, iosOf, Arg.sl, List.map_cons, List.map_nil, List.length_cons, List.length_nil, Nat.zero_add, Nat.reduceAdd, Nat.reduceSub, Nat.reduceLT, List.replicate_succ, List.replicate_zero, List.cons_append, List.nil_append, List.getElem?_cons_zero, List.getElem?_cons_succ, List.set_cons_zero, List.set_cons_succ, methM, isObj, fldM, dget, putFM, objAt, putD, slOf, mutM, lstAt, raiseM, skipM, O.toD, leF, ltF, gtF, geF, subF, iiF, if_true, if_false, Bool.false_eq_true, lenF, Bool.not_true, Bool.not_false, decide_true, decide_false, kit_str_str, kit_str_tuple, kit_str_int, kit_str_bool, kit_int_str, kit_int_int, kit_int_bool, kit_int_tuple, kit_bool_int, kit_bool_bool, kit_bool_tuple, kit_bool_str, kit_tuple_tuple, kit_tuple_str, kit_tuple_int, kit_tuple_bool, kit_none_tuple, kit_none_str, kit_none_int, kit_none_bool, kit_list_tuple, kit_list_str, kit_list_int, nameG, tupGn, consG, nilG, if_pos, Nat.lt_add_one, ixF, appendF, Option.map_some, allF, all_tt, boolsOf_true, wipeE, restE, lcS, forS, freeze, tupGn, extendF, yesT, intF, putLM, rng1M, addF_ll, addF_ii, addF_tt, tupleF, sliceM, intM, dOpt, eqOF_int, neOF_int, inOF, Bool.false_xor, Bool.true_xor, Bool.true_and, Bool.and_true, sq0, sq1, sq2, sq3, sq4, sq5, sq6, sz0, sz1, sz2, sz3, sz4, sz5, sz6, lenSetM, *])
def Pl (p : List D) : Prop := ∃ a b c : Int, p = [.int a, .int b, .int c] ∧ 0 ≤ a ∧ 0 ≤ b ∧ 0 ≤ c
theorem t_next (n : Nat) {p : List D} (h : Pl p) {base : Int} (hb : 0 < base) (hb2 : base < 1073741824) : ∃ (d : Int) (p' : List D), 0 ≤ d ∧ d < base ∧ Pl p' ∧
    T (n + 1) ._law_next [.io (.lst p), .fz (.int base)] = .ret (.fz (.int d)) [.io (.lst p'), .fz (.int base)] := by
  obtain ⟨a, b, c, rfl, ha, hB, hc⟩ := h
  have a0 : ∀ x y z : Int, atI [D.int x, D.int y, D.int z] 0 = some (.int x) := fun _ _ _ => rfl
  have a1 : ∀ x y z : Int, atI [D.int x, D.int y, D.int z] 1 = some (.int y) := fun _ _ _ => rfl
  have a2 : ∀ x y z : Int, atI [D.int x, D.int y, D.int z] 2 = some (.int z) := fun _ _ _ => rfl
  have i0 : ixN 3 0 = some 0 := rfl
  have i2 : ixN 3 2 = some 2 := rfl
  by_cases h0 : 0 < a
  · refine ⟨a % base, [.int (a / base), .int b, .int c], Int.emod_nonneg _ (by omega), Int.emod_lt_of_pos _ hb, ⟨_, _, _, rfl, Int.ediv_nonneg ha (by omega), hB, hc⟩, ?_⟩
    show fnRun 5 (b__law_next (T n)) _ = _
    unfold b__law_next
    have g : (0 < a) = True := eq_true h0
    have m1 := modI a hb
    have m2 := fdivI a hb hb2
    clear hb hb2 ha hB hc h0
    walk_at "evs"
  · let near : Int := (b + 7919 * (c + 1)) % 1000000007
    let stir : Int := (near + 11) * (near + 48271) % 998244353
    refine ⟨stir * stir % 2147483647 / 8 % base, [.int a, .int b, .int (c + 1)], Int.emod_nonneg _ (by omega), Int.emod_lt_of_pos _ hb, ⟨_, _, _, rfl, ha, hB, by omega⟩, ?_⟩
    show fnRun 5 (b__law_next (T n)) _ = _
    unfold b__law_next
    have g : (0 < a) = False := eq_false h0
    have n1 : 0 ≤ near := Int.emod_nonneg _ (by decide)
    have n2 : near < 1000000007 := Int.emod_lt_of_pos _ (by decide)
    have s1 : 0 ≤ stir := Int.emod_nonneg _ (by decide)
    have s2 : stir < 998244353 := Int.emod_lt_of_pos _ (by decide)
    have m1 := mulL (i := 7919) (c + 1) (by decide) (by decide)
    have m2 := modI (b + 7919 * (c + 1)) (j := 1000000007) (by decide)
    have m3 := mulL (i := near + 11) (near + 48271) (by omega) (by omega)
    have m4 := modI ((near + 11) * (near + 48271)) (j := 998244353) (by decide)
    have m5 := mulL (i := stir) stir (by omega) (by omega)
    have m6 := modI (stir * stir) (j := 2147483647) (by decide)
    have m7 := fdivI (stir * stir % 2147483647) (j := 8) (by decide) (by decide)
    have m8 := modI (stir * stir % 2147483647 / 8) hb
    have d1 : (b + 7919 * (c + 1)) % 1000000007 = near := rfl
    have d2 : (near + 11) * (near + 48271) % 998244353 = stir := rfl
    rw [d1] at m2
    rw [d2] at m4
    clear_value stir
    clear_value near
    clear hb hb2 ha hB hc h0 n1 n2 s1 s2 d1 d2
    walk_at "evs"
end Sc.Law

set_option Elab.async false
set_option linter.all false
set_option autoImplicit false
set_option maxRecDepth 100000
set_option maxHeartbeats 2000000
namespace Sc.Law
open PySem L2 Sc
local macro_rules | `(tactic| walk_at "ev") => `(tactic| simp (config := { decide := false }) only [fnRun, seqM, ifS, orT, andT, notT, andM, orM, notM, testM, viewB, view, M.bind, M.pure, M.stuck, nameM, constM, bltM, viewAll, consA, nilA, retM, opM, chainM, isiM, tyName, strMM, tupM, lstM, freezeAll, freeze, setM, exprM, callM, callF, prep, lend, backM, wbAll, Rt.rv, iosOf, Arg.sl, List.map_cons, List.map_nil, List.length_cons, List.length_nil, Nat.zero_add, Nat.reduceAdd, Nat.reduceSub, Nat.reduceLT, List.replicate_succ, List.replicate_zero, List.cons_append, List.nil_append, List.getElem?_cons_zero, List.getElem?_cons_succ, List.set_cons_zero, List.set_cons_succ, methM, isObj, fldM, dget, putFM, objAt, putD, slOf, mutM, lstAt, raiseM, skipM, O.toD, leF, ltF, gtF, geF, subF, iiF, if_true, if_false, Bool.false_eq_true, lenF, Bool.not_true, Bool.not_false, decide_true, decide_false, kit_str_str, kit_str_tuple, kit_str_int, kit_str_bool, kit_int_str, kit_int_int, kit_int_bool, kit_int_tuple, kit_bool_int, kit_bool_bool, kit_bool_tuple, kit_bool_str, kit_tuple_tuple, kit_tuple_str, kit_tuple_int, kit_tuple_bool, kit_none_tuple, kit_none_str, kit_none_int, kit_none_bool, kit_list_tuple, kit_list_str, kit_list_int, nameG, tupGn, consG, nilG, if_pos, Nat.lt_add_one, ixF, appendF, Option.map_some, allF, all_tt, boolsOf_true, wipeE, restE, lcS, forS, freeze, tupGn, extendF, yesT, intF, putLM, rng1M, addF_ll, addF_ii, addF_tt, tupleF, sliceM, intM, dOpt, eqOF_int, neOF_int, inOF, Bool.false_xor, Bool.true_xor, Bool.true_and, Bool.and_true, sq0, sq1, sq2, sq3, sq4, sq5, sq6, sz0, sz1, sz2, sz3, sz4, sz5, sz6, lenSetM])
local macro_rules | `(tactic| walk_at "evs") => `(tactic| simp (config := { decide := false }) only [fnRun, seqM, ifS, orT, andT, notT, andM, orM, notM, testM, viewB, view, M.bind, M.pure, M.stuck, nameM, constM, bltM, viewAll, consA, nilA, retM, opM, chainM, isiM, tyName, strMM, tupM, lstM, freezeAll, freeze, setM, exprM, callM, callF, prep, lend, backM, wbAll, Rt.rv, iosOf, Arg.sl, List.map_cons, List.map_nil, List.length_cons, List.length_nil, Nat.zero_add, Nat.reduceAdd, Nat.reduceSub, Nat.reduceLT, List.replicate_succ, List.replicate_zero, List.cons_append, List.nil_append, List.getElem?_cons_zero, List.getElem?_cons_succ, List.set_cons_zero, List.set_cons_succ, methM, isObj, fldM, dget, putFM, objAt, putD, slOf, mutM, lstAt, raiseM, skipM, O.toD, leF, ltF, gtF, geF, subF, iiF, if_true, if_false, Bool.false_eq_true, lenF, Bool.not_true, Bool.not_false, decide_true, decide_false, kit_str_str, kit_str_tuple, kit_str_int, kit_str_bool, kit_int_str, kit_int_int, kit_int_bool, kit_int_tuple, kit_bool_int, kit_bool_bool, kit_bool_tuple, kit_bool_str, kit_tuple_tuple, kit_tuple_str, kit_tuple_int, kit_tuple_bool, kit_none_tuple, kit_none_str, kit_none_int, kit_none_bool, kit_list_tuple, kit_list_str, kit_list_int, nameG, tupGn, consG, nilG, if_pos, Nat.lt_add_one, ixF, appendF, Option.map_some, allF, all_tt, boolsOf_true, wipeE, restE, lcS, forS, freeze, tupGn, extendF, yesT, intF, putLM, rng1M, addF_ll, addF_ii, addF_tt, tupleF, sliceM, intM, dOpt, eqOF_int, neOF_int, inOF, Bool.false_xor, Bool.true_xor, Bool.true_and, Bool.and_true, sq0, sq1, sq2, sq3, sq4, sq5, sq6, sz0, sz1, sz2, sz3, sz4, sz5, sz6, lenSetM, *])
theorem letter_at {d : Nat} (h : d < 26) : atI (S azL).cps.toList (d : Int) = some (97 + d) := by
  rw [S_cps]
  have all : ∀ d, d < 26 → azL[d]? = some (97 + d) := by decide
  have := all d h
  unfold atI ixN
  simp only [show ¬ ((d : Int) < 0) by omega, if_false, show ((d : Int) < (azL.length : Int)) from by simp [azL]; omega, if_true, Int.toNat_natCast]
  simpa using this
theorem slS_to {B : List Nat} {a : Nat} (h : B.length ≤ 10000) (ha : a ≤ B.length) : slF (.str (S B)) none (some (a : Int)) = some (.fz (.str (S (B.take a)))) := by
  show (if (S B).length ≤ sizeLine then some (Rv.fz (.str (cutS (S B) none (some (a : Int))))) else none) = _
  rw [if_pos (sl8 h)]
  unfold cutS
  rw [HT.sIx_nat, HT.sIx_none, S_cps, S_len, Nat.min_eq_left ha]
  simp [S]
theorem slS_from {B : List Nat} {a : Nat} (h : B.length ≤ 10000) (ha : a ≤ B.length) : slF (.str (S B)) (some (a : Int)) none = some (.fz (.str (S (B.drop a)))) := by
  show (if (S B).length ≤ sizeLine then some (Rv.fz (.str (cutS (S B) (some (a : Int)) none))) else none) = _
  rw [if_pos (sl8 h)]
  unfold cutS
  rw [HT.sIx_nat, HT.sIx_none, S_cps, S_len, Nat.min_eq_left ha]
  congr 3
  show S _ = _
  rw [S_inj, List.take_of_length_le (by simp)]
/-- the names of the law's words -/
structure Nm where
  B : List Nat
  a : Nat
  f : Nat
  s : Nat
  q : Nat
structure Nm.Ok (x : Nm) : Prop where
  az : ∀ c ∈ x.B, c ∈ azL
  b6 : x.B.length ≤ 6
  a : x.a ≤ x.B.length
  f : x.f < 676
  s : x.s = 1 ∨ x.s = 5 ∨ x.s = 27 ∨ x.s = 101
  q : x.q = 0 ∨ (x.q = 1 ∧ x.a < x.B.length)
def Nm.no (x : Nm) (k : Nat) : Nat := (x.f + k * x.s) % 676
def Nm.pr (x : Nm) (k : Nat) : List Nat := [97 + x.no k / 26, 97 + x.no k % 26]
def Nm.fu (x : Nm) (k : Nat) : List Nat := x.B.take x.a ++ x.pr k ++ x.B.drop x.a
def Nm.cu (x : Nm) (k : Nat) : Nat := x.q * (if k % 3 = 1 then 1 else 0)
def Nm.nm (x : Nm) (k : Nat) : List Nat := (x.fu k).take ((x.fu k).length - x.cu k)
theorem words_step (p m : Sl) (lt bs pr fu nm g1 g2 fa fb : Str) (h : Str) (a f s q k no d1 d2 v1 v6 v7 : Int) (x1 x2 : Nat) (acc : List D) (s9 s10 s11 s12 : Sl)
    (m1 : mulF (.int k) (.int s) = some (.fz (.int v1))) (m2 : modF (.int (f + v1)) (.int 676) = some (.fz (.int no)))
    (m3 : fdivF (.int no) (.int 26) = some (.fz (.int d1))) (m4 : modF (.int no) (.int 26) = some (.fz (.int d2)))
    (t1 : atI lt.cps.toList d1 = some x1) (t2 : atI lt.cps.toList d2 = some x2) (q1 : (⟨#[x1]⟩ : Str) = g1) (q2 : (⟨#[x2]⟩ : Str) = g2) (z1 : (lt.length ≤ sizeLine) = True)
    (e1 : addF (.str g1) (.str g2) = some (.fz (.str pr))) (c1 : slF (.str bs) none (some a) = some (.fz (.str fa))) (c2 : slF (.str bs) (some a) none = some (.fz (.str fb)))
    (e2 : addF (.str fa) (.str pr) = some (.fz (.str h))) (e3 : addF (.str h) (.str fb) = some (.fz (.str fu))) (z2 : (fu.length ≤ sizeLine) = True)
    (m5 : modF (.int k) (.int 3) = some (.fz (.int v6))) (m6 : mulF (.int q) (.int (if (v6 == 1) = true then 1 else 0)) = some (.fz (.int v7)))
    (c3 : slF (.str fu) none (some ((fu.length : Int) - v7)) = some (.fz (.str nm))) (z3 : (acc.length < sizeLine) = True) :
    forS (nameG 9) (seqM (setM 10 (opM modF (opM addF (nameM 5) (opM mulF (nameM 9) (nameM 6))) (constM (.int 676))))
    (seqM (setM 11 (opM addF (opM ixF (nameM 2) (opM fdivF (nameM 10) (constM (.int 26)))) (opM ixF (nameM 2) (opM modF (nameM 10) (constM (.int 26))))))
    (seqM (setM 12 (opM addF (opM addF (sliceM (nameM 3) (constM .non) (intM (nameM 4))) (nameM 11)) (sliceM (nameM 3) (intM (nameM 4)) (constM .non))))
    (exprM (mutM appendF 8 (consA (sliceM (nameM 12) (constM .non) (intM (opM subF (bltM lenF (consA (nameM 12) nilA)) (opM mulF (nameM 7) (bltM intF (consA (opM eqOF (opM modF (nameM 9) (constM (.int 3))) (constM (.int 1))) nilA)))))) nilA)))))) (.int k)
      [p, m, .fz (.str lt), .fz (.str bs), .fz (.int a), .fz (.int f), .fz (.int s), .fz (.int q), .own (.lst acc), s9, s10, s11, s12] =
    some [p, m, .fz (.str lt), .fz (.str bs), .fz (.int a), .fz (.int f), .fz (.int s), .fz (.int q), .own (.lst (acc ++ [.str nm])), .fz (.int k), .fz (.int no), .fz (.str pr), .fz (.str fu)] := by
  walk_at "evs"
theorem l_step (x : Nm) (ok : x.Ok) (p : Sl) (many k : Nat) (h36 : many ≤ 36) (hk : k < many) (a b c d : Sl) : forS (nameG 9) (seqM (setM 10 (opM modF (opM addF (nameM 5) (opM mulF (nameM 9) (nameM 6))) (constM (.int 676))))
    (seqM (setM 11 (opM addF (opM ixF (nameM 2) (opM fdivF (nameM 10) (constM (.int 26)))) (opM ixF (nameM 2) (opM modF (nameM 10) (constM (.int 26))))))
    (seqM (setM 12 (opM addF (opM addF (sliceM (nameM 3) (constM .non) (intM (nameM 4))) (nameM 11)) (sliceM (nameM 3) (intM (nameM 4)) (constM .non))))
    (exprM (mutM appendF 8 (consA (sliceM (nameM 12) (constM .non) (intM (opM subF (bltM lenF (consA (nameM 12) nilA)) (opM mulF (nameM 7) (bltM intF (consA (opM eqOF (opM modF (nameM 9) (constM (.int 3))) (constM (.int 1))) nilA)))))) nilA)))))) (.int (k : Int))
    [p, .fz (.int (many : Int)), .fz (.str (S azL)), .fz (.str (S x.B)), .fz (.int (x.a : Int)), .fz (.int (x.f : Int)), .fz (.int (x.s : Int)), .fz (.int (x.q : Int)), .own (.lst ((List.range k).map fun k => dStr (x.nm k))), a, b, c, d] = some
    [p, .fz (.int (many : Int)), .fz (.str (S azL)), .fz (.str (S x.B)), .fz (.int (x.a : Int)), .fz (.int (x.f : Int)), .fz (.int (x.s : Int)), .fz (.int (x.q : Int)), .own (.lst ((List.range (k + 1)).map fun k => dStr (x.nm k))), .fz (.int k), .fz (.int (x.no k : Nat)), .fz (.str (S (x.pr k))), .fz (.str (S (x.fu k)))] := by
  have hs := ok.s
  have ha := ok.a
  have hq := ok.q
  have hb := ok.b6
  have hno : x.no k < 676 := Nat.mod_lt _ (by decide)
  have hfl : (x.fu k).length = x.B.length + 2 := by simp [Nm.fu, Nm.pr]; omega
  have hcu : x.cu k ≤ 1 := by unfold Nm.cu; split <;> omega
  have m1 := mulR (k : Int) (j := (x.s : Int)) (by omega) (by omega)
  have m2 := modI ((x.f : Int) + (k : Int) * (x.s : Int)) (j := 676) (by decide)
  rw [show ((x.f : Int) + (k : Int) * (x.s : Int)) % 676 = ((x.no k : Nat) : Int) by unfold Nm.no; rw [Int.natCast_emod, Int.natCast_add, Int.natCast_mul]; rfl] at m2
  have m3 := fdivI ((x.no k : Nat) : Int) (j := 26) (by decide) (by decide)
  rw [show ((x.no k : Nat) : Int) / 26 = ((x.no k / 26 : Nat) : Int) by omega] at m3
  have m4 := modI ((x.no k : Nat) : Int) (j := 26) (by decide)
  rw [show ((x.no k : Nat) : Int) % 26 = ((x.no k % 26 : Nat) : Int) by omega] at m4
  have t1 := letter_at (d := x.no k / 26) (by omega)
  have t2 := letter_at (d := x.no k % 26) (by omega)
  have g1 := mk_S (97 + x.no k / 26)
  have g2 := mk_S (97 + x.no k % 26)
  have z1 := szS (l := azL) (by decide)
  have z2 := szS (l := x.fu k) (by omega)
  have d1 := addS (a := [97 + x.no k / 26]) (b := [97 + x.no k % 26]) (by simp)
  have d2 := addS (a := x.B.take x.a) (b := x.pr k) (by simp [Nm.pr]; omega)
  have d3 := addS (a := x.B.take x.a ++ x.pr k) (b := x.B.drop x.a) (by simp [Nm.pr]; omega)
  have c1 := slS_to (B := x.B) (a := x.a) (by omega) ha
  have c2 := slS_from (B := x.B) (a := x.a) (by omega) ha
  have m5 := modI (k : Int) (j := 3) (by decide)
  have m6 := mulL (i := (x.q : Int)) (if ((k : Int) % 3 == 1) = true then 1 else 0) (by omega) (by omega)
  have c3 := slS_to (B := x.fu k) (a := (x.fu k).length - x.cu k) (by omega) (by omega)
  have hsub : ((S (x.fu k)).length : Int) - (x.q : Int) * (if ((k : Int) % 3 == 1) = true then 1 else 0) = (((x.fu k).length - x.cu k : Nat) : Int) := by
    rw [S_len]
    have hc : ((x.q : Int) * (if ((k : Int) % 3 == 1) = true then 1 else 0)) = ((x.cu k : Nat) : Int) := by
      unfold Nm.cu
      by_cases h : k % 3 = 1
      · have : ((k : Int) % 3 == 1) = true := by simp; omega
        rw [this, h]; simp
      · have : ((k : Int) % 3 == 1) = false := by simp; omega
        rw [this]; simp [h]
    rw [hc]; omega
  have z3 : (((List.range k).map fun k => dStr (x.nm k)).length < sizeLine) = True := eq_true (by simp; unfold sizeLine; omega)
  have e1 : (List.range (k + 1)).map (fun k => dStr (x.nm k)) = (List.range k).map (fun k => dStr (x.nm k)) ++ [D.str (S (x.nm k))] := by rw [List.range_succ, List.map_append]; rfl
  have f1 : x.B.take x.a ++ x.pr k ++ x.B.drop x.a = x.fu k := rfl
  have f2 : [97 + x.no k / 26, 97 + x.no k % 26] = x.pr k := rfl
  have f3 : [97 + x.no k / 26] ++ [97 + x.no k % 26] = x.pr k := rfl
  have f4 : (x.fu k).take ((x.fu k).length - x.cu k) = x.nm k := rfl
  rw [f3] at d1
  rw [f1] at d3
  rw [f4] at c3
  rw [e1]
  refine words_step (s9 := a) (s10 := b) (s11 := c) (s12 := d) (m1 := m1) (m2 := m2) (m3 := m3) (m4 := m4) (t1 := t1) (t2 := t2) (q1 := g1) (q2 := g2) (z1 := z1) (e1 := d1) (c1 := c1) (c2 := c2) (e2 := d2) (e3 := d3) (z2 := z2) (m5 := m5) (m6 := m6) (z3 := z3) (c3 := ?_) ..
  rw [hsub]
  exact c3
theorem l_words_I (p : Sl) (x : Nm) (many : Nat) (h36 : many ≤ 36) : rng1M (consA (nameM 1) nilA) [p, .fz (.int (many : Int)), .fz (.str (S azL)), .fz (.str (S x.B)), .fz (.int (x.a : Int)), .fz (.int (x.f : Int)), .fz (.int (x.s : Int)), .fz (.int (x.q : Int)), .own (.lst []), .un, .un, .un, .un] = .ok (rangeD 0 many) [p, .fz (.int (many : Int)), .fz (.str (S azL)), .fz (.str (S x.B)), .fz (.int (x.a : Int)), .fz (.int (x.f : Int)), .fz (.int (x.s : Int)), .fz (.int (x.q : Int)), .own (.lst []), .un, .un, .un, .un] := by
  exact rng1_of (by omega) rfl
theorem l_words (n : Nat) (x : Nm) (ok : x.Ok) (p : Sl) (many : Nat) (h36 : many ≤ 36) :
    ∃ s9 s10 s11 s12, l__law_words_1 (T n) [p, .fz (.int (many : Int)), .fz (.str (S azL)), .fz (.str (S x.B)), .fz (.int (x.a : Int)), .fz (.int (x.f : Int)), .fz (.int (x.s : Int)), .fz (.int (x.q : Int)), .own (.lst []), .un, .un, .un, .un]
      = .ok .nx [p, .fz (.int (many : Int)), .fz (.str (S azL)), .fz (.str (S x.B)), .fz (.int (x.a : Int)), .fz (.int (x.f : Int)), .fz (.int (x.s : Int)), .fz (.int (x.q : Int)), .own (.lst ((List.range many).map fun k => dStr (x.nm k))), s9, s10, s11, s12] := by
  obtain ⟨e', h1, s9, s10, s11, s12, rfl⟩ := forM_idx (m := many) (g := nameG 9) (b := (seqM (setM 10 (opM modF (opM addF (nameM 5) (opM mulF (nameM 9) (nameM 6))) (constM (.int 676))))
    (seqM (setM 11 (opM addF (opM ixF (nameM 2) (opM fdivF (nameM 10) (constM (.int 26)))) (opM ixF (nameM 2) (opM modF (nameM 10) (constM (.int 26))))))
    (seqM (setM 12 (opM addF (opM addF (sliceM (nameM 3) (constM .non) (intM (nameM 4))) (nameM 11)) (sliceM (nameM 3) (intM (nameM 4)) (constM .non))))
    (exprM (mutM appendF 8 (consA (sliceM (nameM 12) (constM .non) (intM (opM subF (bltM lenF (consA (nameM 12) nilA)) (opM mulF (nameM 7) (bltM intF (consA (opM eqOF (opM modF (nameM 9) (constM (.int 3))) (constM (.int 1))) nilA)))))) nilA))))))) (I := rng1M (consA (nameM 1) nilA))
    (fun k e => ∃ a b c d, e = [p, .fz (.int (many : Int)), .fz (.str (S azL)), .fz (.str (S x.B)), .fz (.int (x.a : Int)), .fz (.int (x.f : Int)), .fz (.int (x.s : Int)), .fz (.int (x.q : Int)), .own (.lst ((List.range k).map fun k => dStr (x.nm k))), a, b, c, d]) _ (l_words_I p x many h36) ⟨.un, .un, .un, .un, rfl⟩ (fun k e hk ⟨a, b, c, d, he⟩ => by
      subst he
      exact ⟨_, l_step x ok p many k h36 hk a b c d, _, _, _, _, rfl⟩)
  exact ⟨s9, s10, s11, s12, h1⟩
end Sc.Law

set_option Elab.async false
set_option linter.all false
set_option autoImplicit false
set_option maxRecDepth 100000
set_option maxHeartbeats 2000000
namespace Sc.Law
open PySem L2 Sc
local macro_rules | `(tactic| walk_at "ev") => `(tactic| simp (config := { decide := false }) only [fnRun, seqM, ifS, orT, andT, notT, andM, orM, notM, testM, viewB, view, M.bind, M.pure, M.stuck, nameM, constM, bltM, viewAll, consA, nilA, retM, opM, chainM, isiM, tyName, strMM, tupM, lstM, freezeAll, freeze, setM, exprM, callM, callF, prep, lend, backM, wbAll, Rt.rv, iosOf, Arg.sl, List.map_cons, List.map_nil, List.length_cons, List.length_nil, Nat.zero_add, Nat.reduceAdd, Nat.reduceSub, Nat.reduceLT, List.replicate_succ, List.replicate_zero, List.cons_append, List.nil_append, List.getElem?_cons_zero, List.getElem?_cons_succ, List.set_cons_zero, List.set_cons_succ, methM, isObj, fldM, dget, putFM, objAt, putD, slOf, mutM, lstAt, raiseM, skipM, O.toD, leF, ltF, gtF, geF, subF, iiF, if_true, if_false, Bool.false_eq_true, lenF, Bool.not_true, Bool.not_false, decide_true, decide_false, kit_str_str, kit_str_tuple, kit_str_int, kit_str_bool, kit_int_str, kit_int_int, kit_int_bool, kit_int_tuple, kit_bool_int, kit_bool_bool, kit_bool_tuple, kit_bool_str, kit_tuple_tuple, kit_tuple_str, kit_tuple_int, kit_tuple_bool, kit_none_tuple, kit_none_str, kit_none_int, kit_none_bool, kit_list_tuple, kit_list_str, kit_list_int, nameG, tupGn, consG, nilG, if_pos, Nat.lt_add_one, ixF, appendF, Option.map_some, allF, all_tt, boolsOf_true, wipeE, restE, lcS, forS, freeze, tupGn, extendF, yesT, intF, putLM, rng1M, addF_ll, addF_ii, addF_tt, tupleF, sliceM, intM, dOpt, eqOF_int, neOF_int, inOF, Bool.false_xor, Bool.true_xor, Bool.true_and, Bool.and_true, sq0, sq1, sq2, sq3, sq4, sq5, sq6, sz0, sz1, sz2, sz3, sz4, sz5, sz6, lenSetM])
local macro_rules | `(tactic| walk_at "evs") => `(tactic| simp (config := { decide := false }) only [fnRun, seqM, ifS, orT, andT, notT, andM, orM, notM, testM, viewB, view, M.bind, M.pure, M.stuck, nameM, constM, bltM, viewAll, consA, nilA, retM, opM, chainM, isiM, tyName, strMM, tupM, lstM, freezeAll, freeze, setM, exprM, callM, callF, prep, lend, backM, wbAll, Rt.rv, iosOf, Arg.sl, List.map_cons, List.map_nil, List.length_cons, List.length_nil, Nat.zero_add, Nat.reduceAdd, Nat.reduceSub, Nat.reduceLT, List.replicate_succ, List.replicate_zero, List.cons_append, List.nil_append, List.getElem?_cons_zero, List.getElem?_cons_succ, List.set_cons_zero, List.set_cons_succ, methM, isObj, fldM, dget, putFM, objAt, putD, slOf, mutM, lstAt, raiseM, skipM, O.toD, leF, ltF, gtF, geF, subF, iiF, if_true, if_false, Bool.false_eq_true, lenF, Bool.not_true, Bool.not_false, decide_true, decide_false, kit_str_str, kit_str_tuple, kit_str_int, kit_str_bool, kit_int_str, kit_int_int, kit_int_bool, kit_int_tuple, kit_bool_int, kit_bool_bool, kit_bool_tuple, kit_bool_str, kit_tuple_tuple, kit_tuple_str, kit_tuple_int, kit_tuple_bool, kit_none_tuple, kit_none_str, kit_none_int, kit_none_bool, kit_list_tuple, kit_list_str, kit_list_int, nameG, tupGn, consG, nilG, if_pos, Nat.lt_add_one, ixF, appendF, Option.map_some, allF, all_tt, boolsOf_true, wipeE, restE, lcS, forS, freeze, tupGn, extendF, yesT, intF, putLM, rng1M, addF_ll, addF_ii, addF_tt, tupleF, sliceM, intM, dOpt, eqOF_int, neOF_int, inOF, Bool.false_xor, Bool.true_xor, Bool.true_and, Bool.and_true, sq0, sq1, sq2, sq3, sq4, sq5, sq6, sz0, sz1, sz2, sz3, sz4, sz5, sz6, lenSetM, *])
theorem joinT_one : ∀ cs : List Nat, joinT [] (cs.map fun c => [c]) = cs
  | [] => rfl
  | c :: cs => by
    rw [List.map_cons, joinT_cons]
    have : (cs.map fun c => [c]).flatMap ([] ++ ·) = cs := by
      induction cs with
      | nil => rfl
      | cons d ds ih => simpa using ih
    rw [this]; rfl
theorem lit_em : ("" : Str) = S [] := by decide +kernel
def wE (p : List D) (m : Sl) : Ev := [.io (.lst p), m, .fz (.str (S azL)), .un, .un, .un, .un, .un, .un, .un, .un, .un, .un]
theorem c_words (n : Nat) {p : List D} (h : Pl p) (m : Sl) : ∃ (cs : List Nat) (p' : List D), Pl p' ∧ cs.length ≤ 6 ∧ (∀ c ∈ cs, c ∈ azL) ∧ c__law_words_1 (T (n + 1)) (wE p m) = .ok (.own (.lst (cs.map fun c => .str (S [c])))) (wE p' m) := by
  unfold c__law_words_1
  obtain ⟨d, p1, d0, d1, P1, h1⟩ := t_next n h (base := 7) (by decide) (by decide)
  obtain ⟨k, rfl⟩ := Int.eq_ofNat_of_zero_le d0
  have hG : consA (callM [true, false] (T (n + 1) ._law_next) (consA (nameM 0) (consA (constM (.int 7)) nilA))) nilA (wE p m) = .ok [.fz (.int (k : Int))] (wE p1 m) := by
    unfold wE
    clear P1 d0 d1 h
    walk_at "evs"
  have hI := rng1_of (by omega) hG
  obtain ⟨acc, e2, q1, q2, q3⟩ := lcM_inv (vs := [9]) (g := nameG 9) (T := yesT) (A := opM ixF (nameM 2) (callM [true, false] (T (n + 1) ._law_next) (consA (nameM 0) (consA (constM (.int 26)) nilA))))
    (fun acc e => ∃ (cs : List Nat) (p' : List D), acc = cs.map (fun c => D.str (S [c])) ∧ (∀ c ∈ cs, c ∈ azL) ∧ Pl p' ∧ e = wE p' m) hI rfl (by rw [range_len]; unfold sizeLine; omega) ⟨[], p1, rfl, by simp, P1, rfl⟩ (fun d hd acc e ⟨cs, p', ha, hz, hp, he⟩ => by
      subst ha he
      obtain ⟨i, p2, i0, i1, P2, h2⟩ := t_next n hp (base := 26) (by decide) (by decide)
      obtain ⟨j, rfl⟩ := Int.eq_ofNat_of_zero_le i0
      have t1 := letter_at (d := j) (by omega)
      have g := mk_S (97 + j)
      have z := szS (l := azL) (by decide)
      refine ⟨.str (S [97 + j]), (wE p2 m).set 9 (.fz d), ?_, cs ++ [97 + j], p2, by simp, ?_, P2, rfl⟩
      · unfold wE
        clear hz hp hd P2 i0 i1 hI hG P1 d0 d1 h1 h
        walk_at "evs"
      · intro c hc
        rcases List.mem_append.mp hc with q | q
        · exact hz c q
        · simp at q; subst q; exact az_mem.mpr ⟨by omega, by omega⟩)
  obtain ⟨cs, p', rfl, hz, hp, rfl⟩ := q2
  refine ⟨cs, p', hp, ?_, hz, q1⟩
  rw [range_len] at q3
  simp at q3; omega
theorem step_at {si : Nat} (h : si < 4) : ∃ s : Nat, (s = 1 ∨ s = 5 ∨ s = 27 ∨ s = 101) ∧ atI [D.int 1, D.int 5, D.int 27, D.int 101] (si : Int) = some (.int (s : Int)) := by
  match si, h with
  | 0, _ => exact ⟨1, by simp, rfl⟩
  | 1, _ => exact ⟨5, by simp, rfl⟩
  | 2, _ => exact ⟨27, by simp, rfl⟩
  | 3, _ => exact ⟨101, by simp, rfl⟩
theorem cut_at (qi a l : Nat) (h : qi < 2) : ∃ q : Nat, (q = 0 ∨ (q = 1 ∧ a < l)) ∧ mulF (.int (qi : Int)) (.int (if decide ((a : Int) < (l : Int)) = true then 1 else 0)) = some (.fz (.int (q : Int))) := by
  refine ⟨qi * (if a < l then 1 else 0), ?_, ?_⟩
  · by_cases hh : a < l
    · rw [if_pos hh]; omega
    · rw [if_neg hh]; omega
  · rw [mulL (i := (qi : Int)) _ (by omega) (by omega)]
    by_cases hh : a < l
    · have : ((a : Int) < (l : Int)) := by omega
      simp [hh, this]
    · have : ¬ ((a : Int) < (l : Int)) := by omega
      simp [hh, this]
theorem words_walk (n : Nat) (p p1 p2 p3 p4 p5 cs ds : List D) (many a f si s qi q ln : Int) (lt bs em : Str) (s9 s10 s11 s12 : Sl)
    (hlt : ("abcdefghijklmnopqrstuvwxyz" : Str) = lt) (hem : ("" : Str) = em)
    (h1 : c__law_words_1 (T (n + 1)) [.io (.lst p), .fz (.int many), .fz (.str lt), .un, .un, .un, .un, .un, .un, .un, .un, .un, .un] = .ok (.own (.lst cs)) [.io (.lst p1), .fz (.int many), .fz (.str lt), .un, .un, .un, .un, .un, .un, .un, .un, .un, .un])
    (j : joinL em cs = some (.fz (.str bs))) (hl : (bs.length : Int) = ln) (z : (bs.length ≤ sizeLine) = True)
    (h2 : T (n + 1) ._law_next [.io (.lst p1), .fz (.int (ln + 1))] = .ret (.fz (.int a)) [.io (.lst p2), .fz (.int (ln + 1))])
    (h3 : T (n + 1) ._law_next [.io (.lst p2), .fz (.int 676)] = .ret (.fz (.int f)) [.io (.lst p3), .fz (.int 676)])
    (h4 : T (n + 1) ._law_next [.io (.lst p3), .fz (.int 4)] = .ret (.fz (.int si)) [.io (.lst p4), .fz (.int 4)])
    (as : atI [D.int 1, D.int 5, D.int 27, D.int 101] si = some (.int s))
    (h5 : T (n + 1) ._law_next [.io (.lst p4), .fz (.int 2)] = .ret (.fz (.int qi)) [.io (.lst p5), .fz (.int 2)])
    (hq : mulF (.int qi) (.int (if decide (a < ln) = true then 1 else 0)) = some (.fz (.int q)))
    (h6 : l__law_words_1 (T (n + 1)) [.io (.lst p5), .fz (.int many), .fz (.str lt), .fz (.str bs), .fz (.int a), .fz (.int f), .fz (.int s), .fz (.int q), .own (.lst []), .un, .un, .un, .un] = .ok .nx [.io (.lst p5), .fz (.int many), .fz (.str lt), .fz (.str bs), .fz (.int a), .fz (.int f), .fz (.int s), .fz (.int q), .own (.lst ds), s9, s10, s11, s12]) :
    T (n + 2) ._law_words [.io (.lst p), .fz (.int many)] = .ret (.own (.lst ds)) [.io (.lst p5), .fz (.int many)] := by
  show fnRun 13 (b__law_words (T (n + 1))) _ = _
  unfold b__law_words
  rw [hlt, hem]
  clear hlt hem
  walk_at "evs"
  simp only [joinF, j]
  walk_at "evs"
theorem t_words (n : Nat) {p : List D} (h : Pl p) {many : Nat} (h36 : many ≤ 36) : ∃ (x : Nm) (p' : List D), Pl p' ∧ Nm.Ok x ∧
    T (n + 2) ._law_words [.io (.lst p), .fz (.int (many : Int))] = .ret (.own (.lst ((List.range many).map fun k => dStr (x.nm k)))) [.io (.lst p'), .fz (.int (many : Int))] := by
  obtain ⟨cs, p1, P1, l6, az, h1⟩ := c_words n h (.fz (.int (many : Int)))
  obtain ⟨d2, p2, d20, d21, P2, h2⟩ := t_next n P1 (base := ((cs.length : Int) + 1)) (by omega) (by omega)
  obtain ⟨a, rfl⟩ := Int.eq_ofNat_of_zero_le d20
  obtain ⟨d3, p3, d30, d31, P3, h3⟩ := t_next n P2 (base := 676) (by decide) (by decide)
  obtain ⟨f, rfl⟩ := Int.eq_ofNat_of_zero_le d30
  obtain ⟨d4, p4, d40, d41, P4, h4⟩ := t_next n P3 (base := 4) (by decide) (by decide)
  obtain ⟨si, rfl⟩ := Int.eq_ofNat_of_zero_le d40
  obtain ⟨d5, p5, d50, d51, P5, h5⟩ := t_next n P4 (base := 2) (by decide) (by decide)
  obtain ⟨qi, rfl⟩ := Int.eq_ofNat_of_zero_le d50
  obtain ⟨s, hs, as⟩ := step_at (si := si) (by omega)
  obtain ⟨q, hq, hqm⟩ := cut_at qi a cs.length (by omega)
  have ok : Nm.Ok ⟨cs, a, f, s, q⟩ := ⟨az, l6, by show a ≤ cs.length; omega, by show f < 676; omega, hs, hq⟩
  obtain ⟨s9, s10, s11, s12, hl⟩ := l_words (n + 1) _ ok (.io (.lst p5)) many h36
  have j : joinL (S []) (cs.map fun c => .str (S [c])) = some (.fz (.str (S cs))) := by
    have := joinL_S (sep := []) (ls := cs.map fun c => [c]) (by rw [joinT_one]; omega) (by decide)
    rw [List.map_map, joinT_one] at this
    exact this
  exact ⟨⟨cs, a, f, s, q⟩, p5, P5, ok, words_walk n p p1 p2 p3 p4 p5 _ _ _ _ _ _ _ _ _ _ _ _ _ s9 s10 s11 s12 az_lit lit_em h1 j (by rw [S_len]) (szS (by omega)) h2 h3 h4 as h5 hqm hl⟩
end Sc.Law

set_option Elab.async false
set_option linter.all false
set_option autoImplicit false
set_option maxRecDepth 100000
set_option maxHeartbeats 2000000
namespace Sc.Law
open PySem L2 Sc
local macro_rules | `(tactic| walk_at "ev") => `(tactic| simp (config := { decide := false }) only [fnRun, seqM, ifS, orT, andT, notT, andM, orM, notM, testM, viewB, view, M.bind, M.pure, M.stuck, nameM, constM, bltM, viewAll, consA, nilA, retM, opM, chainM, isiM, tyName, strMM, tupM, lstM, freezeAll, freeze, setM, exprM, callM, callF, prep, lend, backM, wbAll, Rt.rv, iosOf, Arg.sl, List.map_cons, List.map_nil, List.length_cons, List.length_nil, Nat.zero_add, Nat.reduceAdd, Nat.reduceSub, Nat.reduceLT, List.replicate_succ, List.replicate_zero, List.cons_append, List.nil_append, List.getElem?_cons_zero, List.getElem?_cons_succ, List.set_cons_zero, List.set_cons_succ, methM, isObj, fldM, dget, putFM, objAt, putD, slOf, mutM, lstAt, raiseM, skipM, O.toD, leF, ltF, gtF, geF, subF, iiF, if_true, if_false, Bool.false_eq_true, lenF, Bool.not_true, Bool.not_false, decide_true, decide_false, kit_str_str, kit_str_tuple, kit_str_int, kit_str_bool, kit_int_str, kit_int_int, kit_int_bool, kit_int_tuple, kit_bool_int, kit_bool_bool, kit_bool_tuple, kit_bool_str, kit_tuple_tuple, kit_tuple_str, kit_tuple_int, kit_tuple_bool, kit_none_tuple, kit_none_str, kit_none_int, kit_none_bool, kit_list_tuple, kit_list_str, kit_list_int, nameG, tupGn, consG, nilG, if_pos, Nat.lt_add_one, ixF, appendF, Option.map_some, allF, all_tt, boolsOf_true, wipeE, restE, lcS, forS, freeze, tupGn, extendF, yesT, intF, putLM, rng1M, addF_ll, addF_ii, addF_tt, tupleF, sliceM, intM, dOpt, eqOF_int, neOF_int, inOF, Bool.false_xor, Bool.true_xor, Bool.true_and, Bool.and_true, sq0, sq1, sq2, sq3, sq4, sq5, sq6, sz0, sz1, sz2, sz3, sz4, sz5, sz6, lenSetM])
local macro_rules | `(tactic| walk_at "evs") => `(tactic| simp (config := { decide := false }) only [fnRun, seqM, ifS, orT, andT, notT, andM, orM, notM, testM, viewB, view, M.bind, M.pure, M.stuck, nameM, constM, bltM, viewAll, consA, nilA, retM, opM, chainM, isiM, tyName, strMM, tupM, lstM, freezeAll, freeze, setM, exprM, callM, callF, prep, lend, backM, wbAll, Rt.rv, iosOf, Arg.sl, List.map_cons, List.map_nil, List.length_cons, List.length_nil, Nat.zero_add, Nat.reduceAdd, Nat.reduceSub, Nat.reduceLT, List.replicate_succ, List.replicate_zero, List.cons_append, List.nil_append, List.getElem?_cons_zero, List.getElem?_cons_succ, List.set_cons_zero, List.set_cons_succ, methM, isObj, fldM, dget, putFM, objAt, putD, slOf, mutM, lstAt, raiseM, skipM, O.toD, leF, ltF, gtF, geF, subF, iiF, if_true, if_false, Bool.false_eq_true, lenF, Bool.not_true, Bool.not_false, decide_true, decide_false, kit_str_str, kit_str_tuple, kit_str_int, kit_str_bool, kit_int_str, kit_int_int, kit_int_bool, kit_int_tuple, kit_bool_int, kit_bool_bool, kit_bool_tuple, kit_bool_str, kit_tuple_tuple, kit_tuple_str, kit_tuple_int, kit_tuple_bool, kit_none_tuple, kit_none_str, kit_none_int, kit_none_bool, kit_list_tuple, kit_list_str, kit_list_int, nameG, tupGn, consG, nilG, if_pos, Nat.lt_add_one, ixF, appendF, Option.map_some, allF, all_tt, boolsOf_true, wipeE, restE, lcS, forS, freeze, tupGn, extendF, yesT, intF, putLM, rng1M, addF_ll, addF_ii, addF_tt, tupleF, sliceM, intM, dOpt, eqOF_int, neOF_int, inOF, Bool.false_xor, Bool.true_xor, Bool.true_and, Bool.and_true, sq0, sq1, sq2, sq3, sq4, sq5, sq6, sz0, sz1, sz2, sz3, sz4, sz5, sz6, lenSetM, *])
variable {x : Nm}
theorem Nm.fu_len (ok : x.Ok) (k : Nat) : (x.fu k).length = x.B.length + 2 := by
  have := ok.a
  simp [Nm.fu, Nm.pr]; omega
theorem Nm.nm_len (ok : x.Ok) (k : Nat) : (x.nm k).length = x.B.length + 2 - x.cu k := by
  unfold Nm.nm
  rw [List.length_take, Nm.fu_len ok]; omega
theorem Nm.cu_q (ok : x.Ok) (k : Nat) : x.cu k = 0 ∨ (x.cu k = 1 ∧ x.a < x.B.length) := by
  unfold Nm.cu
  rcases ok.q with h | ⟨h, h2⟩
  · rw [h]; simp
  · rw [h]; split
    · right; exact ⟨rfl, h2⟩
    · left; rfl
theorem Nm.wd (ok : x.Ok) (k : Nat) : Wd (x.nm k) := by
  have hl := Nm.nm_len ok k
  have hc := Nm.cu_q ok k
  have hb := ok.b6
  refine ⟨by omega, by omega, fun c hc => ?_⟩
  have h1 : c ∈ x.fu k := List.mem_of_mem_take hc
  unfold Nm.fu at h1
  have hno : x.no k < 676 := Nat.mod_lt _ (by decide)
  rcases List.mem_append.mp h1 with h1 | h1
  · rcases List.mem_append.mp h1 with h1 | h1
    · exact az_mem.mp (ok.az c (List.mem_of_mem_take h1))
    · simp [Nm.pr] at h1; omega
  · exact az_mem.mp (ok.az c (List.mem_of_mem_drop h1))
theorem Nm.head (ok : x.Ok) (k : Nat) : (x.nm k).take (x.a + 2) = x.B.take x.a ++ x.pr k := by
  have hc := Nm.cu_q ok k
  have ha := ok.a
  unfold Nm.nm
  rw [List.take_take, Nm.fu_len ok, Nat.min_eq_left (by omega)]
  unfold Nm.fu
  have : (x.B.take x.a ++ x.pr k).length = x.a + 2 := by simp [Nm.pr]; omega
  rw [← this, List.take_left]
theorem no_inj (f s i j : Nat) (hs : s = 1 ∨ s = 5 ∨ s = 27 ∨ s = 101) (hi : i < 36) (hj : j < 36) (h : (f + i * s) % 676 = (f + j * s) % 676) : i = j := by
  rcases hs with rfl | rfl | rfl | rfl <;> omega
theorem Nm.inj (ok : x.Ok) {i j : Nat} (hi : i < 36) (hj : j < 36) (h : x.nm i = x.nm j) : i = j := by
  have h1 := Nm.head ok i
  rw [h, Nm.head ok j] at h1
  have h2 := List.append_cancel_left h1
  simp only [Nm.pr, List.cons.injEq, and_true] at h2
  have h3 : x.no j = x.no i := by
    have a1 := Nat.div_add_mod (x.no i) 26
    have a2 := Nat.div_add_mod (x.no j) 26
    omega
  exact (no_inj x.f x.s j i ok.s hj hi h3).symm
def Nm.all (x : Nm) (n : Nat) : List (List Nat) := (List.range n).map x.nm
theorem Nm.nodup (ok : x.Ok) {n : Nat} (h : n ≤ 36) : (x.all n).Nodup := by
  unfold Nm.all
  rw [List.nodup_iff_pairwise_ne, List.pairwise_map]
  refine List.Pairwise.imp_of_mem ?_ (List.nodup_range (n := n))
  intro a b ha hb hne hq
  exact hne (Nm.inj ok (by have := List.mem_range.mp ha; omega) (by have := List.mem_range.mp hb; omega) hq)
def zL : List Nat := [122, 122, 122, 122, 122, 122, 122, 122]
def noNum (l : List Nat) : List Nat := if l = numL then zL else l
theorem noNum_wd {l : List Nat} (h : Wd l) : Wd (noNum l) := by
  unfold noNum
  split
  · exact ⟨by decide, by decide, by decide⟩
  · exact h
theorem kinds_nd (ok : x.Ok) {n : Nat} (h : n ≤ 36) : (numL :: (x.all n).map noNum).Nodup := by
  rw [List.nodup_cons]
  constructor
  · intro hm
    obtain ⟨l, _, hl⟩ := List.mem_map.mp hm
    unfold noNum at hl
    split at hl
    · exact absurd hl (by decide)
    · rename_i q; exact q hl
  · rw [List.nodup_iff_pairwise_ne, List.pairwise_map]
    refine List.Pairwise.imp_of_mem ?_ (Nm.nodup ok h)
    intro a b ha hb hne hq
    have len : ∀ c d, c ∈ x.all n → d ∈ x.all n → c = numL → d ≠ zL := by
      intro c d hc hd e1 e2
      obtain ⟨i, _, rfl⟩ := List.mem_map.mp hc
      obtain ⟨j, _, rfl⟩ := List.mem_map.mp hd
      have l1 := Nm.nm_len ok i
      have l2 := Nm.nm_len ok j
      rw [e1] at l1
      rw [e2] at l2
      have c1 := Nm.cu_q ok i
      have c2 := Nm.cu_q ok j
      simp only [numL, zL, List.length_cons, List.length_nil] at l1 l2
      omega
    unfold noNum at hq
    split at hq
    · rename_i q1
      split at hq
      · rename_i q2; exact hne (q1.trans q2.symm)
      · exact len a b ha hb q1 hq.symm
    · split at hq
      · rename_i q2; exact len b a hb ha q2 hq
      · exact hne hq
end Sc.Law

set_option Elab.async false
set_option linter.all false
set_option autoImplicit false
set_option maxRecDepth 100000
set_option maxHeartbeats 2000000
namespace Sc.Law
open PySem L2 Sc
local macro_rules | `(tactic| walk_at "ev") => `(tactic| simp (config := { decide := false }) only [fnRun, seqM, ifS, orT, andT, notT, andM, orM, notM, testM, viewB, view, M.bind, M.pure, M.stuck, nameM, constM, bltM, viewAll, consA, nilA, retM, opM, chainM, isiM, tyName, strMM, tupM, lstM, freezeAll, freeze, setM, exprM, callM, callF, prep, lend, backM, wbAll, Rt.rv, iosOf, Arg.sl, List.map_cons, List.map_nil, List.length_cons, List.length_nil, Nat.zero_add, Nat.reduceAdd, Nat.reduceSub, Nat.reduceLT, List.replicate_succ, List.replicate_zero, List.cons_append, List.nil_append, List.getElem?_cons_zero, List.getElem?_cons_succ, List.set_cons_zero, List.set_cons_succ, methM, isObj, fldM, dget, putFM, objAt, putD, slOf, mutM, lstAt, raiseM, skipM, O.toD, leF, ltF, gtF, geF, subF, iiF, if_true, if_false, Bool.false_eq_true, lenF, Bool.not_true, Bool.not_false, decide_true, decide_false, kit_str_str, kit_str_tuple, kit_str_int, kit_str_bool, kit_int_str, kit_int_int, kit_int_bool, kit_int_tuple, kit_bool_int, kit_bool_bool, kit_bool_tuple, kit_bool_str, kit_tuple_tuple, kit_tuple_str, kit_tuple_int, kit_tuple_bool, kit_none_tuple, kit_none_str, kit_none_int, kit_none_bool, kit_list_tuple, kit_list_str, kit_list_int, nameG, tupGn, consG, nilG, if_pos, Nat.lt_add_one, ixF, appendF, Option.map_some, allF, all_tt, boolsOf_true, wipeE, restE, lcS, forS, freeze, tupGn, extendF, yesT, popAtF, intF, putLM, rng1M, addF_ll, addF_ii, addF_tt, tupleF, sliceM, intM, dOpt, eqOF_int, neOF_int, inOF, Bool.false_xor, Bool.true_xor, Bool.true_and, Bool.and_true, sq0, sq1, sq2, sq3, sq4, sq5, sq6, sz0, sz1, sz2, sz3, sz4, sz5, sz6, lenSetM])
local macro_rules | `(tactic| walk_at "evs") => `(tactic| simp (config := { decide := false }) only [fnRun, seqM, ifS, orT, andT, notT, andM, orM, notM, testM, viewB, view, M.bind, M.pure, M.stuck, nameM, constM, bltM, viewAll, consA, nilA, retM, opM, chainM, isiM, tyName, strMM, tupM, lstM, freezeAll, freeze, setM, exprM, callM, callF, prep, lend, backM, wbAll, Rt.rv, iosOf, Arg.sl, List.map_cons, List.map_nil, List.length_cons, List.length_nil, Nat.zero_add, Nat.reduceAdd, Nat.reduceSub, Nat.reduceLT, List.replicate_succ, List.replicate_zero, List.cons_append, List.nil_append, List.getElem?_cons_zero, List.getElem?_cons_succ, List.set_cons_zero, List.set_cons_succ, methM, isObj, fldM, dget, putFM, objAt, putD, slOf, mutM, lstAt, raiseM, skipM, O.toD, leF, ltF, gtF, geF, subF, iiF, if_true, if_false, Bool.false_eq_true, lenF, Bool.not_true, Bool.not_false, decide_true, decide_false, kit_str_str, kit_str_tuple, kit_str_int, kit_str_bool, kit_int_str, kit_int_int, kit_int_bool, kit_int_tuple, kit_bool_int, kit_bool_bool, kit_bool_tuple, kit_bool_str, kit_tuple_tuple, kit_tuple_str, kit_tuple_int, kit_tuple_bool, kit_none_tuple, kit_none_str, kit_none_int, kit_none_bool, kit_list_tuple, kit_list_str, kit_list_int, nameG, tupGn, consG, nilG, if_pos, Nat.lt_add_one, ixF, appendF, Option.map_some, allF, all_tt, boolsOf_true, wipeE, restE, lcS, forS, freeze, tupGn, extendF, yesT, popAtF, intF, putLM, rng1M, addF_ll, addF_ii, addF_tt, tupleF, sliceM, intM, dOpt, eqOF_int, neOF_int, inOF, Bool.false_xor, Bool.true_xor, Bool.true_and, Bool.and_true, sq0, sq1, sq2, sq3, sq4, sq5, sq6, sz0, sz1, sz2, sz3, sz4, sz5, sz6, lenSetM, *])
theorem lit_z : ("zzzzzzzz" : Str) = S zL := by decide +kernel
theorem num_ix {l : List Nat} (w : Wd l) : eqOF (.str (S l)) (.str (S numL)) = some (.fz (.bl (decide (l = numL)))) := by
  rw [eqOF_S (okT_az w) (okT_lit rfl)]
  congr 3
  rw [Bool.eq_iff_iff]
  simp [S_inj]
theorem c_vol_1 (n : Nat) {p : List D} (h : Pl p) {many : Nat} (h6 : many ≤ 6) : ∃ (x : Nm) (p' : List D), Pl p' ∧ x.Ok ∧
    c__law_volume_1 (T (n + 2)) [.io (.lst p), .fz (.int (many : Int)), .un, .un, .un, .un, .un, .un, .un, .un, .un] = .ok (.own (.lst (((x.all many).map noNum).map dStr))) [.io (.lst p'), .fz (.int (many : Int)), .un, .un, .un, .un, .un, .un, .un, .un, .un] := by
  obtain ⟨x, p', P', ok, hw⟩ := t_words n h (many := many) (by omega)
  refine ⟨x, p', P', ok, ?_⟩
  have e : (List.range many).map (fun k => dStr (x.nm k)) = (x.all many).map dStr := by simp [Nm.all]
  rw [e] at hw
  unfold c__law_volume_1
  rw [List.map_map]
  refine lcM_map dStr (dStr ∘ noNum) (x.all many) (e1 := [.io (.lst p'), .fz (.int (many : Int)), .un, .un, .un, .un, .un, .un, .un, .un, .un]) ?_ rfl (by simp [Nm.all]; unfold sizeLine; omega) (fun l hl => ?_) rfl
  · clear P' ok e h6 h
    generalize (x.all many).map dStr = ds at *
    generalize (many : Int) = m at *
    unfold iterM
    walk_at "evs"
  · obtain ⟨i, hi, rfl⟩ := List.mem_map.mp hl
    have hx := num_ix (Nm.wd ok i)
    refine ⟨[.io (.lst p'), .fz (.int (many : Int)), .un, .un, .un, .un, .un, .un, .fz (dStr (x.nm i)), .un, .un], ?_, rfl⟩
    unfold dStr
    generalize x.nm i = w at *
    simp only [Function.comp, noNum]
    rw [num_lit, lit_z]
    generalize (many : Int) = m at *
    clear hw e hl hi P' ok h6 h
    have a0 : ∀ a b : Str, atI [D.str a, D.str b] 0 = some (.str a) := fun _ _ => rfl
    have a1 : ∀ a b : Str, atI [D.str a, D.str b] 1 = some (.str b) := fun _ _ => rfl
    by_cases hq : w = numL
    · rw [decide_eq_true hq] at hx
      rw [if_pos hq]
      clear hq
      walk_at "evs"
    · rw [decide_eq_false hq] at hx
      rw [if_neg hq]
      clear hq
      walk_at "evs"
/-- the makes of one kind: their fields are known -/
def FOk (ks : List (List Nat)) (m : Mk0) : Prop := m.2.length ≤ 4 ∧ ∀ f ∈ m.2, f ∈ numL :: ks
theorem pick {ks : List (List Nat)} {j : Nat} (h : j < ks.length + 1) : ∃ f, f ∈ numL :: ks ∧ atI (ks.map dStr ++ [D.str (S numL)]) (j : Int) = some (dStr f) := by
  have e : ks.map dStr ++ [D.str (S numL)] = (ks ++ [numL]).map dStr := by simp [dStr]
  rw [e]
  have hl : j < (ks ++ [numL]).length := by simp; omega
  refine ⟨(ks ++ [numL])[j], ?_, ?_⟩
  · have := List.getElem_mem hl
    simp only [List.mem_append, List.mem_cons, List.not_mem_nil, or_false] at this ⊢
    rcases this with q | q
    · exact .inr q
    · exact .inl q
  · unfold atI ixN
    simp only [show ¬ ((j : Int) < 0) by omega, if_false, show ((j : Int) < (((ks ++ [numL]).map dStr).length : Int)) from by simp at hl ⊢; omega, if_true, Int.toNat_natCast]
    have h3 : ((ks ++ [numL]).map dStr)[j]? = some (dStr (ks ++ [numL])[j]) := by rw [List.getElem?_map, List.getElem?_eq_getElem hl]; rfl
    rw [if_pos (by omega)]
    exact h3
def vE (p : List D) (many : Int) (ks : List D) (rest bk : List D) (s5 s6 s7 s9 : Sl) : Ev := [.io (.lst p), .fz (.int many), .fz (.lst ks), .own (.lst rest), .own (.lst bk), s5, s6, s7, .un, s9, .un]
theorem c_vol_2_step (n : Nat) (p p' ks rest bk : List D) (s5 s6 s7 s9 : Sl) (many j : Int) (f d : D) (h : T (n + 1) ._law_next [.io (.lst p), .fz (.int (many + 1))] = .ret (.fz (.int j)) [.io (.lst p'), .fz (.int (many + 1))])
    (z : (ks.length + 1 ≤ sizeLine) = True) (hp : atI (ks ++ [D.str (S numL)]) j = some f) : lcS (nameG 10) yesT (opM ixF (opM addF (nameM 2) (lstM (consA (constM (.str "num")) nilA))) (callM [true, false] (T (n + 1) ._law_next) (consA (nameM 0) (consA (opM addF (nameM 1) (constM (.int 1))) nilA)))) d (vE p many ks rest bk s5 s6 s7 s9) = some (f, [.io (.lst p'), .fz (.int many), .fz (.lst ks), .own (.lst rest), .own (.lst bk), s5, s6, s7, .un, s9, .fz d]) := by
  rw [num_lit]
  unfold vE
  walk_at "evs"
theorem c_vol_2_I (n : Nat) (p p' ks rest bk : List D) (s5 s6 s7 s9 : Sl) (many j : Int) (h : T (n + 1) ._law_next [.io (.lst p), .fz (.int 5)] = .ret (.fz (.int j)) [.io (.lst p'), .fz (.int 5)]) :
    consA (callM [true, false] (T (n + 1) ._law_next) (consA (nameM 0) (consA (constM (.int 5)) nilA))) nilA (vE p many ks rest bk s5 s6 s7 s9) = .ok [.fz (.int j)] (vE p' many ks rest bk s5 s6 s7 s9) := by
  unfold vE
  walk_at "evs"
theorem c_vol_2 (n : Nat) {p : List D} (h : Pl p) {ks : List (List Nat)} {many : Nat} (hk : ks.length = many) (h6 : many ≤ 6) (rest bk : List D) (s5 s6 s7 s9 : Sl) : ∃ (fs : List (List Nat)) (p' : List D), Pl p' ∧ fs.length ≤ 4 ∧ (∀ f ∈ fs, f ∈ numL :: ks) ∧
    c__law_volume_2 (T (n + 1)) (vE p (many : Int) (ks.map dStr) rest bk s5 s6 s7 s9) = .ok (.own (.lst (fs.map dStr))) (vE p' (many : Int) (ks.map dStr) rest bk s5 s6 s7 s9) := by
  unfold c__law_volume_2
  obtain ⟨d, p1, d0, d1, P1, h1⟩ := t_next n h (base := 5) (by decide) (by decide)
  obtain ⟨k, rfl⟩ := Int.eq_ofNat_of_zero_le d0
  have hI := rng1_of (by omega) (c_vol_2_I n p p1 (ks.map dStr) rest bk s5 s6 s7 s9 (many : Int) (k : Int) h1)
  obtain ⟨acc, e2, q1, q2, q3⟩ := lcM_inv (vs := [10]) (g := nameG 10) (T := yesT) (A := opM ixF (opM addF (nameM 2) (lstM (consA (constM (.str "num")) nilA))) (callM [true, false] (T (n + 1) ._law_next) (consA (nameM 0) (consA (opM addF (nameM 1) (constM (.int 1))) nilA))))
    (fun acc e => ∃ (fs : List (List Nat)) (p' : List D), acc = fs.map dStr ∧ (∀ f ∈ fs, f ∈ numL :: ks) ∧ Pl p' ∧ e = vE p' (many : Int) (ks.map dStr) rest bk s5 s6 s7 s9) hI rfl (by rw [range_len]; unfold sizeLine; omega) ⟨[], p1, rfl, by simp, P1, rfl⟩ (fun d hd acc e ⟨fs, p', ha, hz, hp, he⟩ => by
      subst ha he
      obtain ⟨i, p2, i0, i1, P2, h2⟩ := t_next n hp (base := ((many : Int) + 1)) (by omega) (by omega)
      obtain ⟨j, rfl⟩ := Int.eq_ofNat_of_zero_le i0
      obtain ⟨f, hf, ha⟩ := pick (ks := ks) (j := j) (by omega)
      refine ⟨dStr f, _, c_vol_2_step n p' p2 (ks.map dStr) rest bk s5 s6 s7 s9 (many : Int) (j : Int) (dStr f) d h2 (eq_true (by simp; unfold sizeLine; omega)) ha, fs ++ [f], p2, by simp, ?_, P2, rfl⟩
      intro c hc
      rcases List.mem_append.mp hc with q | q
      · exact hz c q
      · simp at q; subst q; exact hf)
  obtain ⟨fs, p', rfl, hz, hp, rfl⟩ := q2
  refine ⟨fs, p', hp, ?_, hz, q1⟩
  rw [range_len] at q3
  simp at q3; omega
end Sc.Law

set_option Elab.async false
set_option linter.all false
set_option autoImplicit false
set_option maxRecDepth 100000
set_option maxHeartbeats 2000000
namespace Sc.Law
open PySem L2 Sc
local macro_rules | `(tactic| walk_at "ev") => `(tactic| simp (config := { decide := false }) only [fnRun, seqM, ifS, orT, andT, notT, andM, orM, notM, testM, viewB, view, M.bind, M.pure, M.stuck, nameM, constM, bltM, viewAll, consA, nilA, retM, opM, chainM, isiM, tyName, strMM, tupM, lstM, freezeAll, freeze, setM, exprM, callM, callF, prep, lend, backM, wbAll, Rt.rv, iosOf, Arg.sl, List.map_cons, List.map_nil, List.length_cons, List.length_nil, Nat.zero_add, Nat.reduceAdd, Nat.reduceSub, Nat.reduceLT, List.replicate_succ, List.replicate_zero, List.cons_append, List.nil_append, List.getElem?_cons_zero, List.getElem?_cons_succ, List.set_cons_zero, List.set_cons_succ, methM, isObj, fldM, dget, putFM, objAt, putD, slOf, mutM, lstAt, raiseM, skipM, O.toD, leF, ltF, gtF, geF, subF, iiF, if_true, if_false, Bool.false_eq_true, lenF, Bool.not_true, Bool.not_false, decide_true, decide_false, kit_str_str, kit_str_tuple, kit_str_int, kit_str_bool, kit_int_str, kit_int_int, kit_int_bool, kit_int_tuple, kit_bool_int, kit_bool_bool, kit_bool_tuple, kit_bool_str, kit_tuple_tuple, kit_tuple_str, kit_tuple_int, kit_tuple_bool, kit_none_tuple, kit_none_str, kit_none_int, kit_none_bool, kit_list_tuple, kit_list_str, kit_list_int, nameG, tupGn, consG, nilG, if_pos, Nat.lt_add_one, ixF, appendF, Option.map_some, allF, all_tt, boolsOf_true, wipeE, restE, lcS, forS, freeze, tupGn, extendF, yesT, intF, putLM, rng1M, addF_ll, addF_ii, addF_tt, tupleF, sliceM, intM, dOpt, eqOF_int, neOF_int, inOF, Bool.false_xor, Bool.true_xor, Bool.true_and, Bool.and_true, sq0, sq1, sq2, sq3, sq4, sq5, sq6, sz0, sz1, sz2, sz3, sz4, sz5, sz6, lenSetM])
local macro_rules | `(tactic| walk_at "evs") => `(tactic| simp (config := { decide := false }) only [fnRun, seqM, ifS, orT, andT, notT, andM, orM, notM, testM, viewB, view, M.bind, M.pure, M.stuck, nameM, constM, bltM, viewAll, consA, nilA, retM, opM, chainM, isiM, tyName, strMM, tupM, lstM, freezeAll, freeze, setM, exprM, callM, callF, prep, lend, backM, wbAll, Rt.rv, iosOf, Arg.sl, List.map_cons, List.map_nil, List.length_cons, List.length_nil, Nat.zero_add, Nat.reduceAdd, Nat.reduceSub, Nat.reduceLT, List.replicate_succ, List.replicate_zero, List.cons_append, List.nil_append, List.getElem?_cons_zero, List.getElem?_cons_succ, List.set_cons_zero, List.set_cons_succ, methM, isObj, fldM, dget, putFM, objAt, putD, slOf, mutM, lstAt, raiseM, skipM, O.toD, leF, ltF, gtF, geF, subF, iiF, if_true, if_false, Bool.false_eq_true, lenF, Bool.not_true, Bool.not_false, decide_true, decide_false, kit_str_str, kit_str_tuple, kit_str_int, kit_str_bool, kit_int_str, kit_int_int, kit_int_bool, kit_int_tuple, kit_bool_int, kit_bool_bool, kit_bool_tuple, kit_bool_str, kit_tuple_tuple, kit_tuple_str, kit_tuple_int, kit_tuple_bool, kit_none_tuple, kit_none_str, kit_none_int, kit_none_bool, kit_list_tuple, kit_list_str, kit_list_int, nameG, tupGn, consG, nilG, if_pos, Nat.lt_add_one, ixF, appendF, Option.map_some, allF, all_tt, boolsOf_true, wipeE, restE, lcS, forS, freeze, tupGn, extendF, yesT, intF, putLM, rng1M, addF_ll, addF_ii, addF_tt, tupleF, sliceM, intM, dOpt, eqOF_int, neOF_int, inOF, Bool.false_xor, Bool.true_xor, Bool.true_and, Bool.and_true, sq0, sq1, sq2, sq3, sq4, sq5, sq6, sz0, sz1, sz2, sz3, sz4, sz5, sz6, lenSetM, *])
theorem pop0 (r : D) (rest : List D) : popAtF [.int 0] (r :: rest) = some (r, rest) := by simp [popAtF]
theorem v1_I (n : Nat) (p p' ks rest bk : List D) (s5 s6 s7 s9 : Sl) (many j c : Int) (h : T (n + 1) ._law_next [.io (.lst p), .fz (.int 6)] = .ret (.fz (.int j)) [.io (.lst p'), .fz (.int 6)])
    (ha : atI [D.int 1, D.int 2, D.int 3, D.int 2, D.int 6, D.int 1] j = some (.int c)) :
    consA (opM ixF (lstM (consA (constM (.int 1)) (consA (constM (.int 2)) (consA (constM (.int 3)) (consA (constM (.int 2)) (consA (constM (.int 6)) (consA (constM (.int 1)) nilA))))))) (callM [true, false] (T (n + 1) ._law_next) (consA (nameM 0) (consA (constM (.int 6)) nilA)))) nilA (vE p many ks rest bk s5 s6 s7 s9) = .ok [.fz (.int c)] (vE p' many ks rest bk s5 s6 s7 s9) := by
  unfold vE
  walk_at "evs"
theorem v1_step (n : Nat) (p p' ks rest bk ms fs : List D) (s5 s7 s9 : Sl) (many : Int) (r d : D)
    (h : c__law_volume_2 (T (n + 1)) (vE p many ks (r :: rest) bk s5 (.own (.lst ms)) (.fz d) s9) = .ok (.own (.lst fs)) (vE p' many ks (r :: rest) bk s5 (.own (.lst ms)) (.fz d) s9))
    (z : (ms.length < sizeLine) = True) :
    forS (nameG 7) (seqM (setM 9 (c__law_volume_2 (T (n + 1))))
    (exprM (mutM appendF 6 (consA (tupM (consA (mutM popAtF 3 (consA (constM (.int 0)) nilA)) (consA (bltM tupleF (consA (nameM 9) nilA)) nilA))) nilA)))) d (vE p many ks (r :: rest) bk s5 (.own (.lst ms)) s7 s9) =
    some (vE p' many ks rest bk s5 (.own (.lst (ms ++ [.tup [r, .tup fs]]))) (.fz d) (.own (.lst fs))) := by
  have pp := pop0 r rest
  unfold vE at *
  walk_at "evs"
theorem six_at {j : Nat} (h : j < 6) : ∃ c : Nat, 1 ≤ c ∧ c ≤ 6 ∧ atI [D.int 1, D.int 2, D.int 3, D.int 2, D.int 6, D.int 1] (j : Int) = some (.int (c : Int)) := by
  match j, h with
  | 0, _ => exact ⟨1, by simp, by simp, rfl⟩
  | 1, _ => exact ⟨2, by simp, by simp, rfl⟩
  | 2, _ => exact ⟨3, by simp, by simp, rfl⟩
  | 3, _ => exact ⟨2, by simp, by simp, rfl⟩
  | 4, _ => exact ⟨6, by simp, by simp, rfl⟩
  | 5, _ => exact ⟨1, by simp, by simp, rfl⟩
theorem l_vol_1 (n : Nat) {p : List D} (h : Pl p) {ks : List (List Nat)} {many : Nat} (hk : ks.length = many) (h6 : many ≤ 6) (rest0 : List (List Nat)) (hr : 6 ≤ rest0.length) (bk : List D) (s5 s7 s9 : Sl) :
    ∃ (p' : List D) (ms : List Mk0) (rest : List (List Nat)) (s7' s9' : Sl), Pl p' ∧ 1 ≤ ms.length ∧ ms.length ≤ 6 ∧ ms.map (·.1) ++ rest = rest0 ∧ (∀ m ∈ ms, FOk ks m) ∧
      l__law_volume_1 (T (n + 1)) (vE p (many : Int) (ks.map dStr) (rest0.map dStr) bk s5 (.own (.lst [])) s7 s9) = .ok .nx (vE p' (many : Int) (ks.map dStr) (rest.map dStr) bk s5 (.own (.lst (ms.map dMake))) s7' s9') := by
  unfold l__law_volume_1
  obtain ⟨d, p1, d0, d1, P1, h1⟩ := t_next n h (base := 6) (by decide) (by decide)
  obtain ⟨j, rfl⟩ := Int.eq_ofNat_of_zero_le d0
  obtain ⟨c, c1, c6, ha⟩ := six_at (j := j) (by omega)
  have hI := rng1_of (by omega) (v1_I n p p1 (ks.map dStr) (rest0.map dStr) bk s5 (.own (.lst [])) s7 s9 (many : Int) (j : Int) (c : Int) h1 ha)
  obtain ⟨e', q1, p', ms, rest, s7', s9', P', hl, hm, hf, rfl⟩ := forM_idx (g := nameG 7) (b := (seqM (setM 9 (c__law_volume_2 (T (n + 1))))
    (exprM (mutM appendF 6 (consA (tupM (consA (mutM popAtF 3 (consA (constM (.int 0)) nilA)) (consA (bltM tupleF (consA (nameM 9) nilA)) nilA))) nilA)))))
    (fun k e => ∃ (p' : List D) (ms : List Mk0) (rest : List (List Nat)) (s7' s9' : Sl), Pl p' ∧ ms.length = k ∧ ms.map (·.1) ++ rest = rest0 ∧ (∀ m ∈ ms, FOk ks m) ∧ e = vE p' (many : Int) (ks.map dStr) (rest.map dStr) bk s5 (.own (.lst (ms.map dMake))) s7' s9') _ hI
    ⟨p1, [], rest0, s7, s9, P1, rfl, rfl, by simp, rfl⟩ (fun k e hkc ⟨p', ms, rest, s7', s9', P', hl, hm, hf, he⟩ => by
      subst he
      have hlen := congrArg List.length hm
      simp only [List.length_append, List.length_map] at hlen
      match rest, hm, hlen with
      | [], _, hlen => simp at hlen; omega
      | r :: rest, hm, hlen =>
        obtain ⟨fs, p2, P2, l4, hfs, hc⟩ := c_vol_2 n P' hk h6 ((r :: rest).map dStr) bk s5 (.own (.lst (ms.map dMake))) (.fz (.int (k : Int))) s9'
        have e2 : (ms ++ [(r, fs)]).map dMake = ms.map dMake ++ [.tup [dStr r, .tup (fs.map dStr)]] := by simp [dMake, dStr]
        refine ⟨_, v1_step n p' p2 (ks.map dStr) (rest.map dStr) bk (ms.map dMake) (fs.map dStr) s5 s7' s9' (many : Int) (dStr r) (.int (k : Int)) hc (eq_true (by simp; unfold sizeLine; omega)), p2, ms ++ [(r, fs)], rest, _, _, P2, by simp [hl], by simpa using hm, ?_, by rw [e2]⟩
        intro m hmm
        rcases List.mem_append.mp hmm with q | q
        · exact hf m q
        · simp at q; subst q; exact ⟨l4, hfs⟩)
  exact ⟨p', ms, rest, s7', s9', P', by omega, by omega, hm, hf, q1⟩
theorem v2_step (n : Nat) (p p' ks rest rest' bk ms : List D) (s5 s6 s7 s9 s7' s9' : Sl) (many : Int) (d : D)
    (h : l__law_volume_1 (T (n + 1)) (vE p many ks rest bk (.fz d) (.own (.lst [])) s7 s9) = .ok .nx (vE p' many ks rest' bk (.fz d) (.own (.lst ms)) s7' s9'))
    (z : (bk.length < sizeLine) = True) :
    forS (nameG 5) (seqM (setM 6 (lstM nilA))
    (seqM (l__law_volume_1 (T (n + 1)))
    (exprM (mutM appendF 4 (consA (tupM (consA (nameM 5) (consA (bltM tupleF (consA (nameM 6) nilA)) nilA))) nilA))))) d (vE p many ks rest bk s5 s6 s7 s9) =
    some (vE p' many ks rest' (bk ++ [.tup [d, .tup ms]]) (.fz d) (.own (.lst ms)) s7' s9') := by
  unfold vE at *
  walk_at "evs"
structure Pre (ks nms : List (List Nat)) (done : List (List Nat)) (bk : Book) (rest : List (List Nat)) : Prop where
  kk : bk.map (·.1) = done
  mm : (makesB bk).map (·.1) ++ rest = nms
  m1 : ∀ k ∈ bk, 1 ≤ k.2.length
  m6 : ∀ k ∈ bk, k.2.length ≤ 6
  fo : ∀ k ∈ bk, ∀ m ∈ k.2, FOk ks m
theorem l_vol_2 (n : Nat) {p : List D} (h : Pl p) {ks : List (List Nat)} {many : Nat} (hk : ks.length = many) (h6 : many ≤ 6) (nms : List (List Nat)) (hn : nms.length = 36) :
    ∃ (p' : List D) (bk : Book) (rest : List (List Nat)) (s5 s6 s7 s9 : Sl), Pl p' ∧ Pre ks nms ks bk rest ∧
      l__law_volume_2 (T (n + 1)) [.io (.lst p), .fz (.int (many : Int)), .own (.lst (ks.map dStr)), .own (.lst (nms.map dStr)), .own (.lst []), .un, .un, .un, .un, .un, .un] = .ok .nx (vE p' (many : Int) (ks.map dStr) (rest.map dStr) (bk.map dKind) s5 s6 s7 s9) := by
  unfold l__law_volume_2
  obtain ⟨e', q1, p', bk, rest, s5, s6, s7, s9, P', pre, rfl⟩ := forM_all (g := nameG 5) (b := (seqM (setM 6 (lstM nilA))
    (seqM (l__law_volume_1 (T (n + 1)))
    (exprM (mutM appendF 4 (consA (tupM (consA (nameM 5) (consA (bltM tupleF (consA (nameM 6) nilA)) nilA))) nilA)))))) (I := iterM (nameM 2)) dStr
    (fun done e => ∃ (p' : List D) (bk : Book) (rest : List (List Nat)) (s5 s6 s7 s9 : Sl), Pl p' ∧ Pre ks nms done bk rest ∧ e = vE p' (many : Int) (ks.map dStr) (rest.map dStr) (bk.map dKind) s5 s6 s7 s9)
    ks [.io (.lst p), .fz (.int (many : Int)), .own (.lst (ks.map dStr)), .own (.lst (nms.map dStr)), .own (.lst []), .un, .un, .un, .un, .un, .un] (e1 := vE p (many : Int) (ks.map dStr) (nms.map dStr) [] .un .un .un .un) rfl
    ⟨p, [], nms, .un, .un, .un, .un, h, ⟨rfl, rfl, by simp, by simp, by simp⟩, rfl⟩ (fun done k q e hx ⟨p', bk, rest, s5, s6, s7, s9, P', pre, he⟩ => by
      subst he
      have hl := congrArg List.length hx
      simp only [List.length_append, List.length_cons] at hl
      have hbl : bk.length = done.length := by rw [← pre.kk]; simp
      have hml := makes_le (b := bk) (by omega) pre.m6
      have hmm := congrArg List.length pre.mm
      simp only [List.length_append, List.length_map] at hmm
      obtain ⟨p2, ms, rest2, s7', s9', P2, l1, l6, hm, hf, hv⟩ := l_vol_1 n P' hk h6 rest (by omega) (bk.map dKind) (.fz (dStr k)) s7 s9
      have e2 : (bk ++ [(k, ms)]).map dKind = bk.map dKind ++ [.tup [dStr k, .tup (ms.map dMake)]] := by simp [dKind, dStr]
      refine ⟨_, v2_step n p' p2 (ks.map dStr) (rest.map dStr) (rest2.map dStr) (bk.map dKind) (ms.map dMake) s5 s6 s7 s9 s7' s9' (many : Int) (dStr k) hv (eq_true (by simp; unfold sizeLine; omega)), p2, bk ++ [(k, ms)], rest2, _, _, _, _, P2, ⟨?_, ?_, ?_, ?_, ?_⟩, by rw [e2]⟩
      · rw [List.map_append, pre.kk]; rfl
      · have : makesB (bk ++ [(k, ms)]) = makesB bk ++ ms := by simp [makesB]
        rw [this, List.map_append, List.append_assoc, hm]; exact pre.mm
      · intro k' hk'
        rcases List.mem_append.mp hk' with q | q
        · exact pre.m1 k' q
        · simp at q; subst q; exact l1
      · intro k' hk'
        rcases List.mem_append.mp hk' with q | q
        · exact pre.m6 k' q
        · simp at q; subst q; exact l6
      · intro k' hk'
        rcases List.mem_append.mp hk' with q | q
        · exact pre.fo k' q
        · simp at q; subst q; exact hf)
  exact ⟨p', bk, rest, s5, s6, s7, s9, P', pre, q1⟩
theorem vol_walk (n : Nat) (p p1 p2 p3 p4 ks nms rest bk : List D) (m0 : Int) (s5 s6 s7 s9 : Sl)
    (h1 : T (n + 2) ._law_next [.io (.lst p), .fz (.int 6)] = .ret (.fz (.int m0)) [.io (.lst p1), .fz (.int 6)])
    (h2 : c__law_volume_1 (T (n + 2)) [.io (.lst p1), .fz (.int (1 + m0)), .un, .un, .un, .un, .un, .un, .un, .un, .un] = .ok (.own (.lst ks)) [.io (.lst p2), .fz (.int (1 + m0)), .un, .un, .un, .un, .un, .un, .un, .un, .un])
    (h3 : T (n + 2) ._law_words [.io (.lst p2), .fz (.int 36)] = .ret (.own (.lst nms)) [.io (.lst p3), .fz (.int 36)])
    (h4 : l__law_volume_2 (T (n + 2)) [.io (.lst p3), .fz (.int (1 + m0)), .own (.lst ks), .own (.lst nms), .own (.lst []), .un, .un, .un, .un, .un, .un] = .ok .nx (vE p4 (1 + m0) ks rest bk s5 s6 s7 s9)) :
    T (n + 3) ._law_volume [.io (.lst p)] = .ret (.fz (.tup bk)) [.io (.lst p4)] := by
  show fnRun 11 (b__law_volume (T (n + 2))) _ = _
  unfold b__law_volume
  unfold vE at h4
  walk_at "evs"
theorem t_volume (n : Nat) {p : List D} (h : Pl p) : ∃ (b : Book) (p' : List D), Bk b ∧ Pl p' ∧ T (n + 3) ._law_volume [.io (.lst p)] = .ret (.fz (dBook b)) [.io (.lst p')] := by
  obtain ⟨d, p1, d0, d1, P1, h1⟩ := t_next (n + 1) h (base := 6) (by decide) (by decide)
  obtain ⟨m0, rfl⟩ := Int.eq_ofNat_of_zero_le d0
  have e1 : (1 : Int) + (m0 : Int) = ((1 + m0 : Nat) : Int) := by omega
  obtain ⟨x, p2, P2, ok, h2⟩ := c_vol_1 n P1 (many := 1 + m0) (by omega)
  obtain ⟨y, p3, P3, ok3, h3⟩ := t_words n P2 (many := 36) (by omega)
  have hk : ((x.all (1 + m0)).map noNum).length = 1 + m0 := by simp [Nm.all]
  obtain ⟨p4, bk, rest, s5, s6, s7, s9, P4, pre, h4⟩ := l_vol_2 (n + 1) P3 hk (by omega) (y.all 36) (by simp [Nm.all])
  have e3 : (List.range 36).map (fun k => dStr (y.nm k)) = (y.all 36).map dStr := by simp [Nm.all]
  rw [e3] at h3
  refine ⟨bk, p4, ?_, P4, vol_walk n p p1 p2 p3 p4 _ _ _ _ (m0 : Int) s5 s6 s7 s9 h1 (by rw [e1]; exact h2) h3 (by rw [e1]; exact h4)⟩
  have hl : bk.length = 1 + m0 := by rw [← hk, ← pre.kk]; simp
  have hkm : ∀ k ∈ bk, k.1 ∈ (x.all (1 + m0)).map noNum := fun k hk => by rw [← pre.kk]; exact List.mem_map_of_mem hk
  have hmm : ∀ m ∈ makesB bk, m.1 ∈ y.all 36 := fun m hm => by rw [← pre.mm]; exact List.mem_append_left _ (List.mem_map_of_mem hm)
  refine ⟨by omega, by omega, fun k hk => ?_, pre.m1, pre.m6, fun k hk m hm => ?_, fun k hk m hm => (pre.fo k hk m hm).1, fun k hk m hm f hf => ?_, ?_, ?_⟩
  · obtain ⟨l, hl, e⟩ := List.mem_map.mp (hkm k hk)
    obtain ⟨i, _, rfl⟩ := List.mem_map.mp hl
    rw [← e]; exact noNum_wd (Nm.wd ok i)
  · obtain ⟨i, _, e⟩ := List.mem_map.mp (hmm m (mem_makes hk hm))
    rw [← e]; exact Nm.wd ok3 i
  · rw [pre.kk]; exact (pre.fo k hk m hm).2 f hf
  · rw [pre.kk]; exact kinds_nd ok (by omega)
  · have nd := Nm.nodup ok3 (n := 36) (by omega)
    rw [← pre.mm] at nd
    exact (List.nodup_append.mp nd).1
end Sc.Law

set_option Elab.async false
set_option linter.all false
set_option autoImplicit false
set_option maxRecDepth 100000
set_option maxHeartbeats 2000000
namespace Sc.Law
open PySem L2 Sc
local macro_rules | `(tactic| walk_at "ev") => `(tactic| simp (config := { decide := false }) only [fnRun, seqM, ifS, orT, andT, notT, andM, orM, notM, testM, viewB, view, M.bind, M.pure, M.stuck, nameM, constM, bltM, viewAll, consA, nilA, retM, opM, chainM, isiM, tyName, strMM, tupM, lstM, freezeAll, freeze, setM, exprM, callM, callF, prep, lend, backM, wbAll, Rt.rv, iosOf, Arg.sl, List.map_cons, List.map_nil, List.length_cons, List.length_nil, Nat.zero_add, Nat.reduceAdd, Nat.reduceSub, Nat.reduceLT, List.replicate_succ, List.replicate_zero, List.cons_append, List.nil_append, List.getElem?_cons_zero, List.getElem?_cons_succ, List.set_cons_zero, List.set_cons_succ, methM, isObj, fldM, dget, putFM, objAt, putD, slOf, mutM, lstAt, raiseM, skipM, O.toD, leF, ltF, gtF, geF, subF, iiF, if_true, if_false, Bool.false_eq_true, lenF, Bool.not_true, Bool.not_false, decide_true, decide_false, kit_str_str, kit_str_tuple, kit_str_int, kit_str_bool, kit_int_str, kit_int_int, kit_int_bool, kit_int_tuple, kit_bool_int, kit_bool_bool, kit_bool_tuple, kit_bool_str, kit_tuple_tuple, kit_tuple_str, kit_tuple_int, kit_tuple_bool, kit_none_tuple, kit_none_str, kit_none_int, kit_none_bool, kit_list_tuple, kit_list_str, kit_list_int, nameG, tupGn, consG, nilG, if_pos, Nat.lt_add_one, ixF, appendF, Option.map_some, allF, all_tt, boolsOf_true, wipeE, restE, lcS, forS, freeze, tupGn, extendF, yesT, intF, putLM, rng1M, addF_ll, addF_ii, addF_tt, tupleF, sliceM, intM, dOpt, eqOF_int, neOF_int, inOF, Bool.false_xor, Bool.true_xor, Bool.true_and, Bool.and_true, sq0, sq1, sq2, sq3, sq4, sq5, sq6, sz0, sz1, sz2, sz3, sz4, sz5, sz6, lenSetM])
local macro_rules | `(tactic| walk_at "evs") => `(tactic| simp (config := { decide := false }) only [fnRun, seqM, ifS, orT, andT, notT, andM, orM, notM, testM, viewB, view, M.bind, M.pure, M.stuck, nameM, constM, bltM, viewAll, consA, nilA, retM, opM, chainM, isiM, tyName, strMM, tupM, lstM, freezeAll, freeze, setM, exprM, callM, callF, prep, lend, backM, wbAll, Rt.rv, iosOf, Arg.sl, List.map_cons, List.map_nil, List.length_cons, List.length_nil, Nat.zero_add, Nat.reduceAdd, Nat.reduceSub, Nat.reduceLT, List.replicate_succ, List.replicate_zero, List.cons_append, List.nil_append, List.getElem?_cons_zero, List.getElem?_cons_succ, List.set_cons_zero, List.set_cons_succ, methM, isObj, fldM, dget, putFM, objAt, putD, slOf, mutM, lstAt, raiseM, skipM, O.toD, leF, ltF, gtF, geF, subF, iiF, if_true, if_false, Bool.false_eq_true, lenF, Bool.not_true, Bool.not_false, decide_true, decide_false, kit_str_str, kit_str_tuple, kit_str_int, kit_str_bool, kit_int_str, kit_int_int, kit_int_bool, kit_int_tuple, kit_bool_int, kit_bool_bool, kit_bool_tuple, kit_bool_str, kit_tuple_tuple, kit_tuple_str, kit_tuple_int, kit_tuple_bool, kit_none_tuple, kit_none_str, kit_none_int, kit_none_bool, kit_list_tuple, kit_list_str, kit_list_int, nameG, tupGn, consG, nilG, if_pos, Nat.lt_add_one, ixF, appendF, Option.map_some, allF, all_tt, boolsOf_true, wipeE, restE, lcS, forS, freeze, tupGn, extendF, yesT, intF, putLM, rng1M, addF_ll, addF_ii, addF_tt, tupleF, sliceM, intM, dOpt, eqOF_int, neOF_int, inOF, Bool.false_xor, Bool.true_xor, Bool.true_and, Bool.and_true, sq0, sq1, sq2, sq3, sq4, sq5, sq6, sz0, sz1, sz2, sz3, sz4, sz5, sz6, lenSetM, *])
theorem powI : powF (.int 10) (.int 18) = some (.fz (.int (10 ^ 18))) := by
  show (if (decide ((0 : Int) ≤ 18) && (decide ((18 : Int) ≤ 1000000) && decide ((10 : Int).natAbs < 2 ^ 64))) then some (Rv.fz (.int ((10 : Int) ^ (18 : Int).toNat))) else none) = _
  rw [if_pos (by decide)]
  rfl
theorem dig_walk (n : Nat) (c a b t : Int) (hp : powF (.int 10) (.int 18) = some (.fz (.int t))) (h1 : maxF [.int 0, .int (c - t)] = some (.fz (.int a))) (h2 : modF (.int c) (.int t) = some (.fz (.int b))) :
    T (n + 1) ._law_dig [.fz (.int c)] = .ret (.own (.lst [.int a, .int b, .int 0])) [.fz (.int c)] := by
  show fnRun 1 (b__law_dig (T n)) _ = _
  unfold b__law_dig
  walk_at "evs"
theorem t_dig (n : Nat) (c : Int) : ∃ p, Pl p ∧ T (n + 1) ._law_dig [.fz (.int c)] = .ret (.own (.lst p)) [.fz (.int c)] := by
  refine ⟨_, ?_, dig_walk n c _ _ (10 ^ 18) powI rfl (modI c (by decide))⟩
  refine ⟨_, _, _, rfl, ?_, Int.emod_nonneg _ (by decide), by decide⟩
  split <;> omega
theorem cell_walk_1 (n : Nat) (ns : List Int) (k c : Int) (h : (k < (ns.length : Int)) = True) (hc : atI ns k = some c) :
    T (n + 1) ._law_cell [.fz (.scr ns), .fz (.int k)] = .ret (.fz (.int c)) [.fz (.scr ns), .fz (.int k)] := by
  show fnRun 2 (b__law_cell (T n)) _ = _
  unfold b__law_cell
  walk_at "evs"
theorem cell_walk_2 (n : Nat) (ns : List Int) (k x y z : Int) (h : (k < (ns.length : Int)) = False) (h1 : mulF (.int 7919) (.int k) = some (.fz (.int x))) (h2 : mulF (.int x) (.int k) = some (.fz (.int y))) (h3 : mulF (.int 17) (.int k) = some (.fz (.int z))) :
    T (n + 1) ._law_cell [.fz (.scr ns), .fz (.int k)] = .ret (.fz (.int (y + z))) [.fz (.scr ns), .fz (.int k)] := by
  show fnRun 2 (b__law_cell (T n)) _ = _
  unfold b__law_cell
  walk_at "evs"
theorem t_cell (n : Nat) (ns : List Int) (k : Nat) (hk : k < 100) : ∃ c : Int, T (n + 1) ._law_cell [.fz (.scr ns), .fz (.int (k : Int))] = .ret (.fz (.int c)) [.fz (.scr ns), .fz (.int (k : Int))] := by
  by_cases h : k < ns.length
  · obtain ⟨c, hc⟩ : ∃ c, atI ns (k : Int) = some c := by
      refine ⟨ns[k], ?_⟩
      unfold atI ixN
      simp only [show ((k : Int) < (ns.length : Int)) from by omega, if_true, Int.toNat_natCast]
      rw [if_pos (by omega)]
      simp [h]
    exact ⟨c, cell_walk_1 n ns k c (eq_true (by omega)) hc⟩
  · exact ⟨_, cell_walk_2 n ns k _ _ _ (eq_false (by omega)) (mulL _ (by decide) (by decide)) (mulR _ (by omega) (by omega)) (mulL _ (by decide) (by decide))⟩
theorem law1_step (n : Nat) (sc s1 s4 : Sl) (tx bo : D) (d : D)
    (h1 : T (n + 1) .read_book [.fz tx] = .ret (.fz bo) [.fz tx]) (h2 : T (n + 1) ._law_alike [.fz bo, .fz bo] = .ret (.fz (.bl true)) [.fz bo, .fz bo]) :
    forS (nameG 4) (ifS (notT (testM (callM [false, false] (T (n + 1) ._law_alike) (consA (callM [false] (T (n + 1) .read_book) (consA (nameM 3) nilA)) (consA (nameM 2) nilA))))) (retM (constM (.bl false))) skipM) d [sc, s1, .fz bo, .fz tx, s4] = some [sc, s1, .fz bo, .fz tx, .fz d] := by
  walk_at "evs"
theorem law1 (n : Nat) (sc s1 s4 : Sl) (tx bo : D)
    (h1 : T (n + 1) .read_book [.fz tx] = .ret (.fz bo) [.fz tx]) (h2 : T (n + 1) ._law_alike [.fz bo, .fz bo] = .ret (.fz (.bl true)) [.fz bo, .fz bo]) :
    ∃ s4', l_law_1 (T (n + 1)) [sc, s1, .fz bo, .fz tx, s4] = .ok .nx [sc, s1, .fz bo, .fz tx, s4'] := by
  unfold l_law_1
  have hI := rng1_of (m := 2) (G := consA (constM (.int 2)) nilA) (e := [sc, s1, .fz bo, .fz tx, s4]) (e' := [sc, s1, .fz bo, .fz tx, s4]) (by omega) rfl
  obtain ⟨e', q, s, rfl⟩ := forM_idx (g := nameG 4) (b := ifS (notT (testM (callM [false, false] (T (n + 1) ._law_alike) (consA (callM [false] (T (n + 1) .read_book) (consA (nameM 3) nilA)) (consA (nameM 2) nilA))))) (retM (constM (.bl false))) skipM)
    (fun k e => ∃ s, e = [sc, s1, .fz bo, .fz tx, s]) _ hI ⟨s4, rfl⟩ (fun k e hk ⟨s, he⟩ => by
      subst he
      exact ⟨_, law1_step n sc s1 s tx bo (.int (k : Int)) h1 h2, _, rfl⟩)
  exact ⟨s, q⟩
theorem law2_step (n : Nat) (ns : List Int) (s1 s2 s3 s4 s4' : Sl) (tx bo : D) (p p' : List D) (k c : Int)
    (h1 : T (n + 1) ._law_cell [.fz (.scr ns), .fz (.int k)] = .ret (.fz (.int c)) [.fz (.scr ns), .fz (.int k)])
    (h2 : T (n + 1) ._law_dig [.fz (.int c)] = .ret (.own (.lst p)) [.fz (.int c)])
    (h3 : T (n + 1) ._law_volume [.io (.lst p)] = .ret (.fz bo) [.io (.lst p')])
    (h4 : T (n + 1) ._law_book_text [.fz bo] = .ret (.fz tx) [.fz bo])
    (h5 : T (n + 1) .written_book [.fz bo] = .ret (.fz tx) [.fz bo])
    (h6 : T (n + 1) ._law_alike [.fz tx, .fz tx] = .ret (.fz (.bl true)) [.fz tx, .fz tx])
    (h7 : l_law_1 (T (n + 1)) [.fz (.scr ns), .fz (.int k), .fz bo, .fz tx, s4] = .ok .nx [.fz (.scr ns), .fz (.int k), .fz bo, .fz tx, s4']) :
    forS (nameG 1) (seqM (setM 2 (callM [true] (T (n + 1) ._law_volume) (consA (callM [false] (T (n + 1) ._law_dig) (consA (callM [false, false] (T (n + 1) ._law_cell) (consA (nameM 0) (consA (nameM 1) nilA))) nilA)) nilA)))
    (seqM (setM 3 (callM [false] (T (n + 1) ._law_book_text) (consA (nameM 2) nilA)))
    (seqM (ifS (notT (testM (callM [false, false] (T (n + 1) ._law_alike) (consA (callM [false] (T (n + 1) .written_book) (consA (nameM 2) nilA)) (consA (nameM 3) nilA))))) (retM (constM (.bl false))) skipM)
    (l_law_1 (T (n + 1)))))) (.int k) [.fz (.scr ns), s1, s2, s3, s4] = some [.fz (.scr ns), .fz (.int k), .fz bo, .fz tx, s4'] := by
  walk_at "evs"
theorem law_I (ns : List Int) (m : Int) (u a : Int) (h1 : minF [.int 63, .int (ns.length : Int)] = some (.fz (.int u))) (h2 : maxF [.int 3, .int u] = some (.fz (.int m))) :
    consA (bltM maxF (consA (constM (.int 3)) (consA (bltM minF (consA (constM (.int 63)) (consA (bltM lenF (consA (nameM 0) nilA)) nilA))) nilA))) nilA [.fz (.scr ns), .un, .un, .un, .un] = .ok [.fz (.int m)] [.fz (.scr ns), .un, .un, .un, .un] := by
  walk_at "evs"
theorem minF_i (i j : Int) : minF [.int i, .int j] = some (.fz (.int (if j < i then j else i))) := rfl
theorem maxF_i (i j : Int) : maxF [.int i, .int j] = some (.fz (.int (if j > i then j else i))) := rfl
theorem law_bound (ns : List Int) : ∃ (m : Nat) (u : Int), m ≤ 63 ∧ minF [.int 63, .int (ns.length : Int)] = some (.fz (.int u)) ∧ maxF [.int 3, .int u] = some (.fz (.int (m : Int))) := by
  by_cases h : ns.length < 63
  · by_cases h3 : 3 < ns.length
    · exact ⟨ns.length, ns.length, by omega, by rw [minF_i, if_pos (by omega)], by rw [maxF_i, if_pos (by omega)]⟩
    · exact ⟨3, ns.length, by omega, by rw [minF_i, if_pos (by omega)], by rw [maxF_i, if_neg (by omega)]; rfl⟩
  · exact ⟨63, 63, by omega, by rw [minF_i, if_neg (by omega)], by rw [maxF_i, if_pos (by omega)]; rfl⟩
theorem law2 (n : Nat) (ns : List Int) : ∃ e', l_law_2 (T (n + 6)) [.fz (.scr ns), .un, .un, .un, .un] = .ok .nx e' ∧ ∃ s1 s2 s3 s4, e' = [.fz (.scr ns), s1, s2, s3, s4] := by
  unfold l_law_2
  obtain ⟨m, u, hm, h1, h2⟩ := law_bound ns
  have hI := rng1_of (by omega) (law_I ns (m : Int) u 0 h1 h2)
  obtain ⟨e', q, r⟩ := forM_idx (g := nameG 1) (b := (seqM (setM 2 (callM [true] (T (n + 6) ._law_volume) (consA (callM [false] (T (n + 6) ._law_dig) (consA (callM [false, false] (T (n + 6) ._law_cell) (consA (nameM 0) (consA (nameM 1) nilA))) nilA)) nilA)))
    (seqM (setM 3 (callM [false] (T (n + 6) ._law_book_text) (consA (nameM 2) nilA)))
    (seqM (ifS (notT (testM (callM [false, false] (T (n + 6) ._law_alike) (consA (callM [false] (T (n + 6) .written_book) (consA (nameM 2) nilA)) (consA (nameM 3) nilA))))) (retM (constM (.bl false))) skipM)
    (l_law_1 (T (n + 6)))))))
    (fun k e => ∃ s1 s2 s3 s4, e = [.fz (.scr ns), s1, s2, s3, s4]) _ hI ⟨.un, .un, .un, .un, rfl⟩ (fun k e hk ⟨s1, s2, s3, s4, he⟩ => by
      subst he
      obtain ⟨c, g1⟩ := t_cell (n + 5) ns k (by omega)
      obtain ⟨p, P, g2⟩ := t_dig (n + 5) c
      obtain ⟨b, p', B, P', g3⟩ := t_volume (n + 3) P
      have g4 := t_book_text (n + 4) B.n6 B.sz
      have g5 := t_written_book (n + 4) B.n6 B.sz
      have g6 := t_alike_str (n + 5) (okT_bk B)
      have g7 := t_read_book n B (by have := bk_sz B.n6 B.sz; omega)
      have g8 := t_alike_book n B
      obtain ⟨s4', g9⟩ := law1 (n + 5) (.fz (.scr ns)) (.fz (.int (k : Int))) s4 _ _ g7 g8
      exact ⟨_, law2_step (n + 5) ns s1 s2 s3 s4 s4' _ _ p p' (k : Int) c g1 g2 g3 g4 g5 g6 g9, _, _, _, _, rfl⟩)
  exact ⟨e', q, r⟩
theorem t_law (n : Nat) (ns : List Int) : T (n + 7) .law [.fz (.scr ns)] = .ret (.fz (.bl true)) [.fz (.scr ns)] := by
  show fnRun 5 (b_law (T (n + 6))) _ = _
  unfold b_law
  obtain ⟨e', h, s1, s2, s3, s4, rfl⟩ := law2 n ns
  walk_at "evs"
theorem good (ns : List Int) (h : ns.length ≤ 63) : ∃ ios, T 100 .law [.fz (.scr ns)] = .ret (.fz (.bl true)) ios := ⟨_, t_law 93 ns⟩
end Sc.Law

set_option linter.all false
set_option autoImplicit false
set_option maxRecDepth 100000
set_option maxHeartbeats 400000
namespace Sc.Law
open PySem PySem.Spec PyProof.Rows L2 Sc Hd
/-- the colours at the law's entry -/
def cEnd (H : Hp) : CM := fun a => match H a with
  | some _ => .frz
  | none => .oth
theorem law_sp {K : PySem.W.Frag} {F : Fun} {ns : List Int} {ios : List Arg} (h : F [.fz (.scr ns)] = .ret (.fz (.bl true)) ios) {H : Hp} {a : Addr} (hS : SqL K H a (ns.map V.int)) : spOf K 1 F [.ref a] H (fun v _ => v = .bl true) fun _ _ _ => False := by
  have f : Fz K (cEnd H) H (.ref a) (.scr ns) := by
    rcases hS with hS | ⟨o, its, n, q⟩
    · refine .scr ?_ hS
      unfold cEnd
      rcases hS with hS | ⟨o, hS⟩ <;> rw [hS]
    · exact .kscr ⟨o, its, n, q⟩
  refine ⟨rfl, cEnd H, [.fz (.scr ns)], fun b hb => (by unfold cEnd; rw [hb]), fun b i => (by unfold cEnd; cases H b <;> simp), fun b j hb => (by unfold cEnd at hb; cases q : H b <;> rw [q] at hb <;> cases hb), .fz f .nil, ?_⟩
  rw [h]
  intro c' H' v _ _ _ r
  cases r
  rfl
/-- nothing is raised -/
theorem calm_ok {P : Program} {w : World} {K : PySem.W.Frag} {mg : Str → Option Value} {base : Heap} {k : Nat} {f : Addr} {fd : FuncData} {ps : List Str} {sp : Sp} (F : FnOk P w K mg base (L2.CX P w) k f fd ps sp) : FnOk P w K mg base CX0 k f fd ps fun vs H Q _ => sp vs H Q fun _ _ _ => False where
  len vs H Q E h := F.len _ _ _ _ h
  run A outer s H args us vs Q E hr e0 hb hv h := codeAny_mono (F.run A outer s H args us vs Q _ hr e0 hb hv h) fun r s' q => by
    cases r with
    | ok fl => cases fl <;> exact q
    | error e =>
      obtain ⟨_, _, _, _, _, _, _, _, _, _, _, _, z⟩ := q
      exact z
end Sc.Law
namespace Sc.Law
open PySem PySem.W PySem.Calls PyProof.Rows Hd Sc
theorem fin {N : Nat} (hr : L2.Room (2 * (N + 1)) callerA) (good : ∀ ns : List Int, ns.length ≤ 63 → ∃ ios, T (N + 1) .law [.fz (.scr ns)] = .ret (.fz (.bl true)) ios) :
    WalkO (PySem.W.view R.prog [35]) nms (XL (PySem.W.view R.prog [35]) []) hk.says R.toRowW (HandSHeadRun.topDef R.prog 35) [] fun f vs => PySem.call f vs := by
  refine L2.walk_ofE (l := PySem.Challenge.rw_shapecourt_k80_books_written_and_read) (n := 63) (k := 2 * (N + 1)) (x := "script") (CX := L2.CX0) rfl (by decide) (by kernel_rfl) hr ?F fun _ _ _ _ z => z
  case F =>
    intro w mg fa' h Y G hmg0
    obtain ⟨K, KX, c⟩ := Y
    have hmg : mg ("law" : PySem.Str) = some (.ref fa') := by
      have e : (HandSHeadRun.topDef R.prog 35).name = ("law" : PySem.Str) := by kernel_rfl
      rw [← e]
      exact hmg0
    have t := tx KX G c
    have e := hmg.symm.trans t.g_law
    cases e
    obtain ⟨fd, Fd⟩ := c.def_ 28 (d := d_law) rfl
    have b := L2.FunD.bindsA (ps := ["script"]) Fd fun _ _ _ _ _ _ us hl => match us, hl with | [_], _ => rfl
    refine ⟨K, fd, fun vs H Q _ => spOf K 1 (T (N + 1) .law) vs H Q fun _ _ _ => False, KX, fun s v => b s [v] rfl, fun H a ns hl _ hS => ?_, fun base _ _ => calm_ok (o_law t (lv t c N) Fd)⟩
    obtain ⟨ios, h⟩ := good ns hl
    exact law_sp h hS
end Sc.Law
open PySem PySem.W PySem.Calls PyProof.Rows
set_option maxHeartbeats 0 in
theorem PySem.Challenge.cw_shapecourt_k80_books_written_and_read_holds : PySem.Challenge.rw_shapecourt_k80_books_written_and_read.Holds := by
  w_on; o_law
  refine HandSHeadRun.head_any (r := Hd.R) (q := PySem.W.view Hd.R.prog [35]) (H := Hd.hk) (ob := Hd.ob) (M := 3000) (loose := Hd.nms) (d := HandSHeadRun.topDef Hd.R.prog 35) (kwd := []) Hd.ob_eq (by kernel_rfl) (fun s => by kernel_rfl) Hd.run (by kernel_rfl) (by kernel_rfl) (by kernel_rfl) (by rfl) (by first | assumption | decide +kernel) (by decide +kernel) ⟨rfl, rfl, rfl, rfl, rfl, by decide +kernel⟩ ?hw ?hc
  case hw => w_witness2
  case hc => exact Sc.Law.fin (N := 99) ⟨rfl, by decide, by decide⟩ Sc.Law.good
